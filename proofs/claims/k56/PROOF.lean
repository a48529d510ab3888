import PyProof.Rows.All
import Wide.All
import OpenK.AllK
import Wide.FinOn
import HandS.ForMost
import HandS.ForExc
import HandS.TupAny
import HandS.Deep
import HandS.IsInst
import HandS.Zip
import HandS.Rev
import HandS.RevRange
import HandS.Conv
import HandS.CallSlots
import HandS.TryMany
import HandS.TupLe
import HandS.Wide
import HandS.StrMore
import KE.KDictKeyed
import KE.SortData
import KE.DataEq
import HandS.TupMul
import KE.GoesMore
import KE.GoesEnum
import KE.KDictDisplayH
import HandS.Style
import HandS.TupLen
import HandS.ExcInit
import HandS.ExcField
import HandS.Nested
import KE.KExcSuper
import HandS.TupSets
import KE.KeyNested
import HandS.Iter
import PySem.Challenge.RW_marblewright_k56_whole_faults
set_option Elab.async false
set_option linter.all false
set_option maxRecDepth 100000
set_option maxHeartbeats 4000000
set_option autoImplicit false
/-! PQ.1: pure data, slots, the relation of values to data -/
namespace PQ
open PySem PySem.Spec PyProof.Rows L2

abbrev D := PyData
abbrev St := L2.St

/-- an own exception: its class's name, its fields -/
structure Exc where
  cls : Str
  fld : List (Str × D)

inductive R (α : Type) where
  | ok (a : α)
  | exc (x : Exc)
  | stuck

namespace R
def bind {α β : Type} : R α → (α → R β) → R β
  | .ok a, f => f a
  | .exc x, _ => .exc x
  | .stuck, _ => .stuck
instance : Monad R where
  pure := .ok
  bind := R.bind
@[simp] theorem ok_bind {α β : Type} (a : α) (f : α → R β) : (R.ok a >>= f) = f a := id rfl
@[simp] theorem exc_bind {α β : Type} (x : Exc) (f : α → R β) : ((R.exc x : R α) >>= f) = .exc x := id rfl
@[simp] theorem stuck_bind {α β : Type} (f : α → R β) : ((R.stuck : R α) >>= f) = .stuck := id rfl
@[simp] theorem pure_eq {α : Type} (a : α) : (pure a : R α) = .ok a := id rfl
end R

/-- a slot: unset, frozen data, a list or dict of the slot's own -/
inductive Sl where
  | u
  | f (d : D)
  | o (d : D)
  | s (ns : List Int)
  | n (rows : List (List D))
  | x (a : Addr) (dd : Option Addr) (x : Exc)
abbrev Rho := List Sl

/-! ### keys -/
mutual
def keyD : D → Option NestedKey
  | .none => some .none
  | .bool b => some (.num (if b = true then 1 else 0))
  | .int i => some (.num i)
  | .str x => some (.text x)
  | .tuple xs => (keyDs xs).map .tup
  | .list _ => none
  | .dict _ => none
def keyDs : List D → Option (List NestedKey)
  | [] => some []
  | d :: ds => (keyD d).bind fun k => (keyDs ds).map fun ks => k :: ks
end

/-! ### frozen values -/
abbrev rawH (a : Addr) (o : Obj) : HO := .ext fun h => h.get? a = some o
def nodupK (kvs : List (D × D)) : Prop := (kvs.map fun p => keyD p.1).Nodup
mutual
inductive RD (w : World) (K : PySem.W.Frag) (Z : Hp) : V → D → Prop
  | non : RD w K Z .non .none
  | bl (b : Bool) : RD w K Z (.bl b) (.bool b)
  | int (i : Int) : RD w K Z (.int i) (.int i)
  | str (x : Str) : RD w K Z (.str x) (.str x)
  | lst {a : Addr} {xs : List V} {ds : List D} : Z a = some (.lst xs) → RDs w K Z xs ds → RD w K Z (.ref a) (.list ds)
  | tup {a : Addr} {xs : List V} {ds : List D} : SqT K Z a xs → RDs w K Z xs ds → RD w K Z (.ref a) (.tuple ds)
  | dct {a : Addr} {o : Obj} {es : Array DictEntry} {ep : Nat} {kvs : List (D × D)} : (Z a = some (rawH a o) ∨ K.lookup a = some o) → (a == sysModules) = false → o.ExactDict → o.data = .dict es ep →
      kvs.length ≤ sizeLine → nodupK kvs → RDE w K Z es.toList kvs → RD w K Z (.ref a) (.dict kvs)
inductive RDs (w : World) (K : PySem.W.Frag) (Z : Hp) : List V → List D → Prop
  | nil : RDs w K Z [] []
  | cons {v : V} {d : D} {vs : List V} {ds : List D} : RD w K Z v d → RDs w K Z vs ds → RDs w K Z (v :: vs) (d :: ds)
inductive RDE (w : World) (K : PySem.W.Frag) (Z : Hp) : List DictEntry → List (D × D) → Prop
  | nil : RDE w K Z [] []
  | cons {e : DictEntry} {kd vd : D} {kv vv : V} {nk : NestedKey} {l : List DictEntry} {kvs : List (D × D)} : keyD kd = some nk → e.hash = nk.hash w → RelV kv e.key → RelV vv e.val → RD w K Z kv kd → RD w K Z vv vd →
      RDE w K Z l kvs → RDE w K Z (e :: l) ((kd, vd) :: kvs)
end

section
variable {w : World} {K : PySem.W.Frag} {Z Z' H H' : Hp}
mutual
theorem RD.mono (s : Same Z Z') : ∀ {v : V} {d : D}, RD w K Z v d → RD w K Z' v d
  | _, _, .non => .non
  | _, _, .bl b => .bl b
  | _, _, .int i => .int i
  | _, _, .str x => .str x
  | _, _, .lst h r => .lst (s _ _ h) (RDs.mono s r)
  | _, _, .tup h r => .tup (by
      rcases h with (h | ⟨o, h⟩) | h
      · exact .inl (.inl (s _ _ h))
      · exact .inl (.inr ⟨o, s _ _ h⟩)
      · exact .inr h) (RDs.mono s r)
  | _, _,   .dct h1 h2 h3 h4 h5 h6 r => .dct (h1.imp (s _ _) id) h2 h3 h4 h5 h6 (RDE.mono s r)
theorem RDs.mono (s : Same Z Z') : ∀ {v : List V} {d : List D}, RDs w K Z v d → RDs w K Z' v d
  | _, _, .nil => .nil
  | _, _, .cons h t => .cons (RD.mono s h) (RDs.mono s t)
theorem RDE.mono (s : Same Z Z') : ∀ {l : List DictEntry} {kvs : List (D × D)}, RDE w K Z l kvs → RDE w K Z' l kvs
  | _, _, .nil => .nil
  | _, _, .cons h1 h2 h3 h4 r1 r2 t => .cons h1 h2 h3 h4 (RD.mono s r1) (RD.mono s r2) (RDE.mono s t)
end
theorem RDs.length : ∀ {vs : List V} {ds : List D}, RDs w K Z vs ds → vs.length = ds.length
  | _, _, .nil => rfl
  | _, _, .cons _ t => congrArg (· + 1) (RDs.length t)
theorem RDs.append : ∀ {vs vs' : List V} {ds ds' : List D}, RDs w K Z vs ds → RDs w K Z vs' ds' → RDs w K Z (vs ++ vs') (ds ++ ds')
  | _, _, _, _, .nil, h => h
  | _, _, _, _, .cons a t, h => .cons a (RDs.append t h)
theorem RDs.get : ∀ {vs : List V} {ds : List D} {i : Nat} {d : D}, RDs w K Z vs ds → ds[i]? = some d → ∃ v, vs[i]? = some v ∧ RD w K Z v d
  | _, _, _, _, .nil, e => by simp at e
  | _, _, 0, _, .cons a _, e => by simp at e; subst e; exact ⟨_, rfl, a⟩
  | _, _, i + 1, d, .cons _ t, e => by
    obtain ⟨v, h1, h2⟩ := RDs.get (i := i) (d := d) t (by simpa using e)
    exact ⟨v, by simpa using h1, h2⟩
theorem RDs.getV : ∀ {vs : List V} {ds : List D} {i : Nat} {v : V}, RDs w K Z vs ds → vs[i]? = some v → ∃ d, ds[i]? = some d ∧ RD w K Z v d
  | _, _, _, _, .nil, e => by simp at e
  | _, _, 0, _, .cons a _, e => by simp at e; subst e; exact ⟨_, rfl, a⟩
  | _, _, i + 1, d, .cons _ t, e => by
    obtain ⟨v, h1, h2⟩ := RDs.getV (i := i) (v := d) t (by simpa using e)
    exact ⟨v, by simpa using h1, h2⟩
theorem RDs.take : ∀ {vs : List V} {ds : List D} (n : Nat), RDs w K Z vs ds → RDs w K Z (vs.take n) (ds.take n)
  | _, _, 0, _ => .nil
  | _, _, _ + 1, .nil => .nil
  | _, _, n + 1, .cons a t => .cons a (RDs.take n t)
theorem RDs.drop : ∀ {vs : List V} {ds : List D} (n : Nat), RDs w K Z vs ds → RDs w K Z (vs.drop n) (ds.drop n)
  | _, _, 0, r => r
  | _, _, _ + 1, .nil => .nil
  | _, _, n + 1, .cons _ t => RDs.drop n t
theorem RDs.set {v : V} {d : D} (r : RD w K Z v d) : ∀ {vs : List V} {ds : List D} (i : Nat), RDs w K Z vs ds → RDs w K Z (vs.set i v) (ds.set i d)
  | _, _, _, .nil => .nil
  | _, _, 0, .cons _ t => .cons r t
  | _, _, i + 1, .cons q t => .cons q (RDs.set r i t)
theorem RDs.reverse : ∀ {vs : List V} {ds : List D}, RDs w K Z vs ds → RDs w K Z vs.reverse ds.reverse
  | _, _, .nil => .nil
  | _, _, .cons a t => by
    rw [List.reverse_cons, List.reverse_cons]
    exact (RDs.reverse t).append (.cons a .nil)
theorem RDs.rep {vs : List V} {ds : List D} (h : RDs w K Z vs ds) : ∀ k : Nat, RDs w K Z (List.replicate k vs).flatten (List.replicate k ds).flatten
  | 0 => .nil
  | k + 1 => by
    rw [List.replicate_succ, List.replicate_succ, List.flatten_cons, List.flatten_cons]
    exact h.append (RDs.rep h k)
theorem RDs.of_get {vs : List V} {ds : List D} (hl : vs.length = ds.length) (h : ∀ (i : Nat) v d, vs[i]? = some v → ds[i]? = some d → RD w K Z v d) : RDs w K Z vs ds := by
  induction vs generalizing ds with
  | nil =>
    cases ds with
    | nil => exact .nil
    | cons _ _ => simp at hl
  | cons v vs ih =>
    cases ds with
    | nil => simp at hl
    | cons d ds =>
      refine .cons (h 0 v d rfl rfl) (ih (by simpa using hl) fun i v' d' e1 e2 => h (i + 1) v' d' (by simpa using e1) (by simpa using e2))

/-! ### data without dicts, without lists -/
mutual
def noDict : D → Bool
  | .dict _ => false
  | .list xs => noDicts xs
  | .tuple xs => noDicts xs
  | _ => true
def noDicts : List D → Bool
  | [] => true
  | d :: ds => noDict d && noDicts ds
end
mutual
/-- tuples all the way -/
def noLst : D → Bool
  | .dict _ => false
  | .list _ => false
  | .tuple xs => noLsts xs
  | _ => true
def noLsts : List D → Bool
  | [] => true
  | d :: ds => noLst d && noLsts ds
end
mutual
theorem RD.dp : ∀ {v : V} {d : D}, RD w K Z v d → noDict d = true → Dp K Z v d
  | _, _, .non, _ => .non
  | _, _, .bl b, _ => .bl b
  | _, _, .int i, _ => .int i
  | _, _, .str x, _ => .str x
  | _, _, .lst h r, e => .lst (.inl (.inl h)) (RDs.dp r (by simpa [noDict] using e))
  | _, _, .tup h r, e => .tup h (RDs.dp r (by simpa [noDict] using e))
  | _, _, .dct _ _ _ _ _ _ _, e => by simp [noDict] at e
theorem RDs.dp : ∀ {v : List V} {d : List D}, RDs w K Z v d → noDicts d = true → DpAll K Z v d
  | _, _, .nil, _ => .nil
  | _, _, .cons h t, e => by
    simp only [noDicts, Bool.and_eq_true] at e
    exact .cons (RD.dp h e.1) (RDs.dp t e.2)
end

/-- the tuples of Z -/
def tupsOf (Z : Hp) : Hp := fun a => match Z a with
  | some (.tup xs) => some (.tup xs)
  | some (.frz o (.tup xs)) => some (.frz o (.tup xs))
  | _ => none
theorem tupsOf_le (Z : Hp) : Same (tupsOf Z) Z := fun a o e => by
  unfold tupsOf at e
  split at e <;> first | (cases e; assumption) | cases e
mutual
theorem RD.tups : ∀ {v : V} {d : D}, RD w K Z v d → noLst d = true → RD w K (tupsOf Z) v d
  | _, _, .non, _ => .non
  | _, _, .bl b, _ => .bl b
  | _, _, .int i, _ => .int i
  | _, _, .str x, _ => .str x
  | _, _, .lst h r, e => by simp [noLst] at e
  | _, _, .tup h r, e => .tup (by
      rcases h with (h | ⟨o, h⟩) | h
      · exact .inl (.inl (by unfold tupsOf; rw [h]))
      · exact .inl (.inr ⟨o, by unfold tupsOf; rw [h]⟩)
      · exact .inr h) (RDs.tups r (by simpa [noLst] using e))
  | _, _, .dct _ _ _ _ _ _ _, e => by simp [noLst] at e
theorem RDs.tups : ∀ {v : List V} {d : List D}, RDs w K Z v d → noLsts d = true → RDs w K (tupsOf Z) v d
  | _, _, .nil, _ => .nil
  | _, _, .cons h t, e => by
    simp only [noLsts, Bool.and_eq_true] at e
    exact .cons (RD.tups h e.1) (RDs.tups t e.2)
end
theorem RDE.tups : ∀ {l : List DictEntry} {kvs : List (D × D)}, RDE w K Z l kvs → noLsts (kvs.map (·.1)) = true → noLsts (kvs.map (·.2)) = true → RDE w K (tupsOf Z) l kvs
  | _, _, .nil, _, _ => .nil
  | _, _, .cons h1 h2 h3 h4 r1 r2 t, e, f => by
    simp only [List.map_cons, noLsts, Bool.and_eq_true] at e f
    exact .cons h1 h2 h3 h4 (r1.tups e.1) (r2.tups f.1) (RDE.tups t e.2 f.2)
end

/-! ### the frozen part grows, what is tracked stands -/
structure Ext (Z H Z' H' : Hp) : Prop where
  hh : Same H H'
  zz : Same Z Z'
  zh : Same Z' H'
  nw : ∀ a o, Z a = none → H a = some o → Z' a = none
theorem Ext.refl {Z H : Hp} (s : Same Z H) : Ext Z H Z H := ⟨Same.refl _, Same.refl _, s, fun _ _ h _ => h⟩
theorem Ext.trans {Z H Z1 H1 Z2 H2 : Hp} (a : Ext Z H Z1 H1) (b : Ext Z1 H1 Z2 H2) : Ext Z H Z2 H2 :=
  ⟨a.hh.trans b.hh, a.zz.trans b.zz, b.zh, fun x o h1 h2 => b.nw x o (a.nw x o h1 h2) (a.hh x o h2)⟩
theorem same_upd {H : Hp} {p : Addr} {o : HO} (h : H p = none) : Same H (upd H p o) := fun b x e => by
  rw [upd_ne (ne_of_none e h)]
  exact e
theorem same_upds {Z H : Hp} (s : Same Z H) {p : Addr} {o : HO} : Same (upd Z p o) (upd H p o) := fun b x e => by
  by_cases hb : b = p
  · subst hb; rw [upd_same] at e ⊢; exact e
  · rw [upd_ne hb] at e ⊢; exact s b x e
/-- a new object, frozen at once -/
theorem Ext.new {Z H : Hp} (s : Same Z H) {p : Addr} {o : HO} (hp : H p = none) : Ext Z H (upd Z p o) (upd H p o) := by
  have zp : Z p = none := by
    cases e : Z p with
    | none => rfl
    | some u => have := s p u e; rw [hp] at this; cases this
  exact ⟨same_upd hp, same_upd zp, same_upds s, fun a u h1 h2 => by rw [upd_ne (ne_of_none h2 hp)]; exact h1⟩
/-- a new object that is not frozen -/
theorem Ext.newO {Z H : Hp} (s : Same Z H) {p : Addr} {o : HO} (hp : H p = none) : Ext Z H Z (upd H p o) :=
  ⟨same_upd hp, Same.refl _, s.trans (same_upd hp), fun a u h1 _ => h1⟩

/-- a list (or dict) of one's own at a -/
inductive Own (w : World) (K : PySem.W.Frag) (Z H : Hp) (a : Addr) : D → Prop
  | lst {xs : List V} {ds : List D} : Z a = none → H a = some (.lst xs) → RDs w K Z xs ds → Own w K Z H a (.list ds)
  | dct {o : Obj} {es : Array DictEntry} {ep : Nat} {kvs : List (D × D)} : Z a = none → H a = some (rawH a o) → (a == sysModules) = false → o.ExactDict → o.data = .dict es ep →
      kvs.length ≤ sizeLine → nodupK kvs → RDE w K Z es.toList kvs → Own w K Z H a (.dict kvs)
theorem Own.there {w K Z H a d} (h : Own w K Z H a d) : ∃ o, H a = some o := by
  cases h with
  | lst _ h _ => exact ⟨_, h⟩
  | dct _ h _ _ _ _ _ _ => exact ⟨_, h⟩
theorem Own.zno {w K Z H a d} (h : Own w K Z H a d) : Z a = none := by
  cases h with
  | lst h _ _ => exact h
  | dct h _ _ _ _ _ _ _ => exact h
theorem Own.keep {w : World} {K : PySem.W.Frag} {Z H Z' H' : Hp} {a : Addr} {d : D} (s : Same Z Z') (hz : Z' a = none) (hh : ∀ o, H a = some o → H' a = some o) (h : Own w K Z H a d) : Own w K Z' H' a d := by
  cases h with
  | lst _ h r => exact .lst hz (hh _ h) (r.mono s)
  | dct _ h h2 h3 h4 h5 h6 r => exact .dct hz (hh _ h) h2 h3 h4 h5 h6 (r.mono s)
theorem Own.ext {w : World} {K : PySem.W.Frag} {Z H Z' H' : Hp} {a : Addr} {d : D} (x : Ext Z H Z' H') (h : Own w K Z H a d) : Own w K Z' H' a d := by
  obtain ⟨o, ho⟩ := h.there
  exact h.keep x.zz (x.nw a o h.zno ho) fun _ e => x.hh _ _ e
/-- it is frozen -/
theorem Own.freeze {w : World} {K : PySem.W.Frag} {Z H : Hp} {a : Addr} {d : D} (s : Same Z H) (h : Own w K Z H a d) : ∃ o, H a = some o ∧ RD w K (upd Z a o) (.ref a) d ∧ Same Z (upd Z a o) ∧ Same (upd Z a o) H := by
  have zs : ∀ o, Same Z (upd Z a o) := fun o => same_upd h.zno
  have sh : ∀ o, H a = some o → Same (upd Z a o) H := fun o ho b u e => by
    by_cases hb : b = a
    · subst hb; rw [upd_same] at e; cases e; exact ho
    · rw [upd_ne hb] at e; exact s b u e
  cases h with
  | lst hz h r => exact ⟨_, h, .lst upd_same (r.mono (zs _)), zs _, sh _ h⟩
  | dct hz h h2 h3 h4 h5 h6 r => exact ⟨_, h, .dct (.inl upd_same) h2 h3 h4 h5 h6 (r.mono (zs _)), zs _, sh _ h⟩

/-- lists of one's own in a list of one's own -/
structure NOwn (w : World) (K : PySem.W.Frag) (Z H : Hp) (a : Addr) (bs : List Addr) (rows : List (List D)) : Prop where
  za : Z a = none
  ha : H a = some (.lst (bs.map .ref))
  it : ∀ (i : Nat) (b : Addr), bs[i]? = some b → ∃ xs ds, rows[i]? = some ds ∧ Z b = none ∧ H b = some (.lst xs) ∧ RDs w K Z xs ds
  ln : bs.length = rows.length
  nd : (a :: bs).Nodup
theorem NOwn.mem {w K Z H a bs rows} (h : NOwn w K Z H a bs rows) {b : Addr} (hb : b ∈ a :: bs) : Z b = none ∧ ∃ xs, H b = some (.lst xs) := by
  rcases List.mem_cons.mp hb with rfl | hb
  · exact ⟨h.za, _, h.ha⟩
  · obtain ⟨i, hi⟩ := List.mem_iff_getElem?.mp hb
    obtain ⟨xs, ds, _, h2, h3, _⟩ := h.it i b hi
    exact ⟨h2, _, h3⟩
theorem NOwn.keep {w : World} {K : PySem.W.Frag} {Z H Z' H' : Hp} {a : Addr} {bs : List Addr} {rows : List (List D)} (s : Same Z Z') (h : NOwn w K Z H a bs rows) (hk : ∀ b ∈ a :: bs, Z' b = none ∧ ∀ o, H b = some o → H' b = some o) : NOwn w K Z' H' a bs rows := by
  refine ⟨(hk a List.mem_cons_self).1, (hk a List.mem_cons_self).2 _ h.ha, fun i b hb => ?_, h.ln, h.nd⟩
  obtain ⟨xs, ds, h1, h2, h3, h4⟩ := h.it i b hb
  have m := hk b (List.mem_cons_of_mem _ (List.mem_of_getElem? hb))
  exact ⟨xs, ds, h1, m.1, m.2 _ h3, h4.mono s⟩

/-- a slot's value -/
def SlRep (w : World) (K : PySem.W.Frag) (H0 Z H : Hp) (c : Option V) : Sl → Prop
  | .u => True
  | .f d => ∃ v, c = some v ∧ RD w K Z v d
  | .o d => ∃ a, c = some (.ref a) ∧ Own w K Z H a d ∧ H0 a = none
  | .s ns => ∃ a, c = some (.ref a) ∧ SqL K H0 a (ns.map V.int)
  | .n rows => ∃ a bs, c = some (.ref a) ∧ NOwn w K Z H a bs rows ∧ ∀ b ∈ a :: bs, H0 b = none
  | .x a dd x => c = some (.ref a) ∧ ∀ f d, x.fld = [(f, d)] → ∃ b v, dd = some b ∧ Z b = some (.xd [(f, v)]) ∧ RD w K Z v d
/-- the slot owns the object at b -/
def OwnsA (H : Hp) (c : Option V) : Sl → Addr → Prop
  | .o _, b => c = some (.ref b)
  | .n _, b => ∃ a, c = some (.ref a) ∧ (b = a ∨ ∃ xs, H a = some (.lst xs) ∧ V.ref b ∈ xs)
  | _, _ => False
section
variable {w : World} {K : PySem.W.Frag} {H0 Z H Z' H' : Hp} {c : Option V} {s : Sl} {b : Addr}
theorem NOwn.owns {a : Addr} {bs : List Addr} {rows rows' : List (List D)} (h : NOwn w K Z H a bs rows) : OwnsA H (some (.ref a)) (.n rows') b ↔ b ∈ a :: bs := by
  constructor
  · rintro ⟨a', e, q⟩
    cases e
    rcases q with rfl | ⟨xs, h1, h2⟩
    · exact List.mem_cons_self
    · rw [h.ha] at h1
      cases h1
      obtain ⟨b', hb, e⟩ := List.mem_map.mp h2
      cases e
      exact List.mem_cons_of_mem _ hb
  · intro hb
    refine ⟨a, rfl, ?_⟩
    rcases List.mem_cons.mp hb with rfl | hb
    · exact .inl rfl
    · exact .inr ⟨_, h.ha, List.mem_map_of_mem hb⟩
theorem SlRep.owned (h : SlRep w K H0 Z H c s) (o : OwnsA H c s b) : (∃ u, H b = some u) ∧ Z b = none ∧ H0 b = none := by
  cases s with
  | u => exact o.elim
  | f d => exact o.elim
  | s ns => exact o.elim
  | x a dd x => exact o.elim
  | o d =>
    obtain ⟨a, e, q, n⟩ := h
    have o : c = some (.ref b) := o
    rw [e] at o
    cases o
    exact ⟨q.there, q.zno, n⟩
  | n rows =>
    obtain ⟨a, bs, e, q, n⟩ := h
    subst e
    have hb := q.owns.mp o
    obtain ⟨h1, xs, h2⟩ := q.mem hb
    exact ⟨⟨_, h2⟩, h1, n b hb⟩
theorem SlRep.keepG (h : SlRep w K H0 Z H c s) (sz : Same Z Z') (k : ∀ b, OwnsA H c s b → Z' b = none ∧ ∀ o, H b = some o → H' b = some o) : SlRep w K H0 Z' H' c s := by
  cases s with
  | u => trivial
  | f d => obtain ⟨v, e, r⟩ := h; exact ⟨v, e, r.mono sz⟩
  | s ns => exact h
  | x a dd x =>
    refine ⟨h.1, fun f d e => ?_⟩
    obtain ⟨b, v, h1, h2, h3⟩ := h.2 f d e
    exact ⟨b, v, h1, sz _ _ h2, h3.mono sz⟩
  | o d =>
    obtain ⟨a, e, q, n⟩ := h
    have := k a e
    exact ⟨a, e, q.keep sz this.1 this.2, n⟩
  | n rows =>
    obtain ⟨a, bs, e, q, n⟩ := h
    subst e
    exact ⟨a, bs, rfl, q.keep sz fun b hb => k b (q.owns.mpr hb), n⟩
theorem SlRep.ownsBack (h : SlRep w K H0 Z H c s) (k : ∀ b, OwnsA H c s b → ∀ o, H b = some o → H' b = some o) (o : OwnsA H' c s b) : OwnsA H c s b := by
  cases s with
  | u => exact o
  | f d => exact o
  | s ns => exact o
  | x a dd x => exact o
  | o d => exact o
  | n rows =>
    obtain ⟨a, bs, e, q, n⟩ := h
    subst e
    obtain ⟨a', e, o⟩ := o
    cases e
    refine ⟨a, rfl, ?_⟩
    rcases o with rfl | ⟨xs, h1, h2⟩
    · exact .inl rfl
    · have := k a (q.owns.mpr List.mem_cons_self) _ q.ha
      rw [this] at h1
      cases h1
      exact .inr ⟨_, q.ha, h2⟩
end

/-- the slots σ in the heap H bear the data ρ; the entry was (Z0, H0) -/
structure Rep (w : World) (K : PySem.W.Frag) (Z0 H0 Z H : Hp) (σ : St) (ρ : Rho) : Prop where
  ext : Ext Z0 H0 Z H
  len : σ.length = ρ.length
  sl : ∀ (i : Nat) (c : Option V) (s : Sl), σ[i]? = some c → ρ[i]? = some s → SlRep w K H0 Z H c s
  dj : ∀ (i j : Nat) (c e : Option V) (s t : Sl) (b : Addr), i ≠ j → σ[i]? = some c → σ[j]? = some e → ρ[i]? = some s → ρ[j]? = some t → OwnsA H c s b → OwnsA H e t b → False

section
variable {w : World} {K : PySem.W.Frag} {Z0 H0 Z H Z' H' : Hp} {σ : St} {ρ : Rho}
theorem Rep.zh (r : Rep w K Z0 H0 Z H σ ρ) : Same Z H := r.ext.zh
/-- what a step of the heap does to the slots -/
theorem Rep.go (r : Rep w K Z0 H0 Z H σ ρ) (x : Ext Z0 H0 Z' H') (sz : Same Z Z') (k : ∀ (j : Nat) (c : Option V) (s : Sl) (b : Addr), σ[j]? = some c → ρ[j]? = some s → OwnsA H c s b → Z' b = none ∧ ∀ o, H b = some o → H' b = some o) : Rep w K Z0 H0 Z' H' σ ρ := by
  refine ⟨x, r.len, fun i c s h1 h2 => (r.sl i c s h1 h2).keepG sz fun b o => k i c s b h1 h2 o, fun i j c e s t b hij h1 h2 h3 h4 o1 o2 => ?_⟩
  exact r.dj i j c e s t b hij h1 h2 h3 h4 ((r.sl i c s h1 h3).ownsBack (fun b o => (k i c s b h1 h3 o).2) o1) ((r.sl j e t h2 h4).ownsBack (fun b o => (k j e t b h2 h4 o).2) o2)
theorem Rep.step (r : Rep w K Z0 H0 Z H σ ρ) (x : Ext Z H Z' H') : Rep w K Z0 H0 Z' H' σ ρ :=
  r.go (r.ext.trans x) x.zz fun j c s b h1 h2 o => by
    obtain ⟨⟨u, hu⟩, hz, _⟩ := (r.sl j c s h1 h2).owned o
    exact ⟨x.nw b u hz hu, fun o e => x.hh _ _ e⟩
/-- .. and slot i is set -/
theorem Rep.one (r : Rep w K Z0 H0 Z H σ ρ) (i : Nat) (c' : Option V) (s' : Sl) (x : Ext Z0 H0 Z' H') (sz : Same Z Z')
    (k : ∀ (j : Nat) (c : Option V) (s : Sl) (b : Addr), j ≠ i → σ[j]? = some c → ρ[j]? = some s → OwnsA H c s b → Z' b = none ∧ ∀ o, H b = some o → H' b = some o) (q : SlRep w K H0 Z' H' c' s')
    (d : ∀ (j : Nat) (c : Option V) (s : Sl) (b : Addr), j ≠ i → σ[j]? = some c → ρ[j]? = some s → OwnsA H c s b → ¬ OwnsA H' c' s' b) : Rep w K Z0 H0 Z' H' (σ.set i c') (ρ.set i s') := by
  have at' : ∀ {j : Nat} {c : Option V} {s : Sl}, (σ.set i c')[j]? = some c → (ρ.set i s')[j]? = some s → (j = i ∧ c = c' ∧ s = s') ∨ (j ≠ i ∧ σ[j]? = some c ∧ ρ[j]? = some s) := by
    intro j c s h1 h2
    by_cases hj : i = j
    · subst hj
      rw [List.getElem?_set] at h1 h2
      simp only [if_true] at h1 h2
      split at h1 <;> split at h2 <;> first | (cases h2; done) | (cases h1; done) | (cases h1; cases h2; exact .inl ⟨rfl, rfl, rfl⟩)
    · rw [List.getElem?_set_ne hj] at h1 h2
      exact .inr ⟨Ne.symm hj, h1, h2⟩
  have back : ∀ {j : Nat} {c : Option V} {s : Sl} {b : Addr}, j ≠ i → σ[j]? = some c → ρ[j]? = some s → OwnsA H' c s b → OwnsA H c s b := fun {j c s b} hj h1 h2 o =>
    (r.sl j c s h1 h2).ownsBack (fun b o => (k j c s b hj h1 h2 o).2) o
  refine ⟨x, by simpa using r.len, fun j c s h1 h2 => ?_, fun j l c e s t b hjl h1 h2 h3 h4 o1 o2 => ?_⟩
  · rcases at' h1 h2 with ⟨rfl, rfl, rfl⟩ | ⟨hj, h1, h2⟩
    · exact q
    · exact (r.sl j c s h1 h2).keepG sz fun b o => k j c s b hj h1 h2 o
  · rcases at' h1 h3 with ⟨rfl, rfl, rfl⟩ | ⟨hj, g1, g2⟩
    · rcases at' h2 h4 with ⟨rfl, rfl, rfl⟩ | ⟨hl, g3, g4⟩
      · exact hjl rfl
      · exact d l e t b hl g3 g4 (back hl g3 g4 o2) o1
    · rcases at' h2 h4 with ⟨rfl, rfl, rfl⟩ | ⟨hl, g3, g4⟩
      · exact d j c s b hj g1 g2 (back hj g1 g2 o1) o2
      · exact r.dj j l c e s t b hjl g1 g3 g2 g4 (back hj g1 g2 o1) (back hl g3 g4 o2)
theorem set_self {α : Type} (l : List α) (i : Nat) (d : α) : l.set i (l[i]?.getD d) = l := by
  apply List.ext_getElem?
  intro j
  rw [List.getElem?_set]
  split
  · rename_i hj
    subst hj
    split
    · rename_i h2; simp [h2]
    · rename_i h2; simp at h2; simp [h2]
  · rfl
theorem Rep.keepsO (r : Rep w K Z0 H0 Z H σ ρ) : ∀ (j : Nat) (c : Option V) (s : Sl) (b : Addr), σ[j]? = some c → ρ[j]? = some s → OwnsA H c s b → Z b = none ∧ ∀ o, H b = some o → H b = some o := fun j c s b h1 h2 o => ⟨((r.sl j c s h1 h2).owned o).2.1, fun _ e => e⟩
theorem Rep.getS (r : Rep w K Z0 H0 Z H σ ρ) {i : Nat} {s : Sl} (h : ρ[i]? = some s) : ∃ c, σ[i]? = some c ∧ SlRep w K H0 Z H c s := by
  have hi : i < ρ.length := (List.getElem?_eq_some_iff.mp h).1
  have hi' : i < σ.length := by rw [r.len]; exact hi
  exact ⟨σ[i], by simp [hi'], r.sl i _ s (by simp [hi']) h⟩
theorem Rep.getF (r : Rep w K Z0 H0 Z H σ ρ) {i : Nat} {d : D} (h : ρ[i]? = some (.f d)) : ∃ v, σ[i]? = some (some v) ∧ RD w K Z v d := by
  obtain ⟨c, h1, v, e, q⟩ := r.getS h
  exact ⟨v, by rw [h1, e], q⟩
theorem Rep.getO (r : Rep w K Z0 H0 Z H σ ρ) {i : Nat} {d : D} (h : ρ[i]? = some (.o d)) : ∃ a, σ[i]? = some (some (.ref a)) ∧ Own w K Z H a d ∧ H0 a = none := by
  obtain ⟨c, h1, a, e, q⟩ := r.getS h
  exact ⟨a, by rw [h1, e], q⟩
/-- a frozen value into slot i -/
theorem Rep.setF (r : Rep w K Z0 H0 Z H σ ρ) (i : Nat) {v : V} {d : D} (q : RD w K Z v d) : Rep w K Z0 H0 Z H (σ.set i (some v)) (ρ.set i (.f d)) :=
  r.one i _ _ r.ext (Same.refl _) (fun j c s b _ h1 h2 o => r.keepsO j c s b h1 h2 o) ⟨v, rfl, q⟩ fun _ _ _ _ _ _ _ _ o => o
/-- slot i is forgotten -/
theorem Rep.setU (r : Rep w K Z0 H0 Z H σ ρ) (i : Nat) (c0 : Option V) : Rep w K Z0 H0 Z H (σ.set i c0) (ρ.set i .u) :=
  r.one i _ _ r.ext (Same.refl _) (fun j c s b _ h1 h2 o => r.keepsO j c s b h1 h2 o) trivial fun _ _ _ _ _ _ _ _ o => o
theorem Rep.forget (r : Rep w K Z0 H0 Z H σ ρ) (i : Nat) : Rep w K Z0 H0 Z H σ (ρ.set i .u) := by
  have h := r.setU i (σ[i]?.getD none)
  rwa [set_self] at h
/-- an own object, new, into slot i -/
theorem Rep.setO (r : Rep w K Z0 H0 Z H σ ρ) (i : Nat) {a : Addr} {d : D} (q : Own w K Z H a d) (h0 : H0 a = none) (hn : ∀ (j : Nat) c s, j ≠ i → σ[j]? = some c → ρ[j]? = some s → ¬ OwnsA H c s a) : Rep w K Z0 H0 Z H (σ.set i (some (.ref a))) (ρ.set i (.o d)) :=
  r.one i _ _ r.ext (Same.refl _) (fun j c s b _ h1 h2 o => r.keepsO j c s b h1 h2 o) ⟨a, rfl, q, h0⟩ fun j c s b hj h1 h2 o e => by
    cases (show some (V.ref a) = some (.ref b) from e)
    exact hn j c s hj h1 h2 o
/-- lists of one's own in a list of one's own, new, into slot i -/
theorem Rep.setN (r : Rep w K Z0 H0 Z H σ ρ) (i : Nat) {a : Addr} {bs : List Addr} {rows : List (List D)} (q : NOwn w K Z H a bs rows) (h0 : ∀ b ∈ a :: bs, H0 b = none) (hn : ∀ (j : Nat) c s b, j ≠ i → b ∈ a :: bs → σ[j]? = some c → ρ[j]? = some s → ¬ OwnsA H c s b) : Rep w K Z0 H0 Z H (σ.set i (some (.ref a))) (ρ.set i (.n rows)) :=
  r.one i _ _ r.ext (Same.refl _) (fun j c s b _ h1 h2 o => r.keepsO j c s b h1 h2 o) ⟨a, bs, rfl, q, h0⟩ fun j c s b hj h1 h2 o e => hn j c s b hj (q.owns.mp e) h1 h2 o
/-- slot i's own object is frozen -/
theorem Rep.freeze (r : Rep w K Z0 H0 Z H σ ρ) {i : Nat} {d : D} (h : ρ[i]? = some (.o d)) : ∃ Z', Rep w K Z0 H0 Z' H σ (ρ.set i (.f d)) ∧ Same Z Z' := by
  obtain ⟨a, h1, q, h0⟩ := r.getO h
  obtain ⟨o, ho, q', s1, s2⟩ := q.freeze r.zh
  have h := r.one (Z' := upd Z a o) (H' := H) i (some (.ref a)) (.f d) ⟨r.ext.hh, r.ext.zz.trans s1, s2, fun b u hb1 hb2 => ?_⟩ s1 (fun j c s b hj e1 e2 ow => ?_) ⟨_, rfl, q'⟩ (fun _ _ _ _ _ _ _ _ o => o)
  · refine ⟨upd Z a o, ?_, s1⟩
    have e := set_self σ i none
    rw [h1] at e
    have e : σ.set i (some (.ref a)) = σ := e
    rwa [e] at h
  · rw [upd_ne (fun z => by rw [z, h0] at hb2; cases hb2)]
    exact r.ext.nw b u hb1 hb2
  · refine ⟨?_, fun _ e => e⟩
    have hb : b ≠ a := fun hb => by
      subst hb
      exact r.dj j i c _ s _ b hj e1 h1 e2 h ow rfl
    rw [upd_ne hb]
    exact (r.keepsO j c s b e1 e2 ow).1
/-- slot i's own object is changed (H a becomes o) -/
theorem Rep.mutate (r : Rep w K Z0 H0 Z H σ ρ) {i : Nat} {d d' : D} {a : Addr} {o : HO} (h : ρ[i]? = some (.o d)) (h1 : σ[i]? = some (some (.ref a))) (h0 : H0 a = none) (hz : Z a = none) (q : Own w K Z (upd H a o) a d') :
    Rep w K Z0 H0 Z (upd H a o) σ (ρ.set i (.o d')) := by
  have ne : ∀ (j : Nat) (c : Option V) (s : Sl) (b : Addr), j ≠ i → σ[j]? = some c → ρ[j]? = some s → OwnsA H c s b → b ≠ a := fun j c s b hj e1 e2 ow hb => by
    subst hb
    exact r.dj j i c _ s _ b hj e1 h1 e2 h ow rfl
  have h := r.one (Z' := Z) (H' := upd H a o) i (some (.ref a)) (.o d') ⟨fun b u e => ?_, r.ext.zz, fun b u e => ?_, r.ext.nw⟩ (Same.refl _) (fun j c s b hj e1 e2 ow => ⟨(r.keepsO j c s b e1 e2 ow).1, fun u e => ?_⟩) ⟨a, rfl, q, h0⟩
    (fun j c s b hj e1 e2 ow e => ?_)
  · have e := set_self σ i none
    rw [h1] at e
    have e : σ.set i (some (.ref a)) = σ := e
    rwa [e] at h
  · rw [upd_ne (fun z => by rw [z, h0] at e; cases e)]; exact r.ext.hh b u e
  · rw [upd_ne (fun z => by rw [z, hz] at e; cases e)]; exact r.zh b u e
  · rw [upd_ne (ne j c s b hj e1 e2 ow)]; exact e
  · cases (show some (V.ref a) = some (.ref b) from e)
    exact ne j c s a hj e1 e2 ow rfl
theorem Rep.getN (r : Rep w K Z0 H0 Z H σ ρ) {i : Nat} {rows : List (List D)} (h : ρ[i]? = some (.n rows)) : ∃ a bs, σ[i]? = some (some (.ref a)) ∧ NOwn w K Z H a bs rows ∧ ∀ b ∈ a :: bs, H0 b = none := by
  obtain ⟨c, h1, a, bs, e, q⟩ := r.getS h
  exact ⟨a, bs, by rw [h1, e], q⟩
/-- an inner list of slot i is changed -/
theorem Rep.mutateN (r : Rep w K Z0 H0 Z H σ ρ) {i k : Nat} {rows : List (List D)} {a b : Addr} {bs : List Addr} {xs : List V} {ds : List D} (h : ρ[i]? = some (.n rows)) (h1 : σ[i]? = some (some (.ref a))) (q : NOwn w K Z H a bs rows) (h0 : ∀ b ∈ a :: bs, H0 b = none)
    (hb : bs[k]? = some b) (rd : RDs w K Z xs ds) : Rep w K Z0 H0 Z (upd H b (.lst xs)) σ (ρ.set i (.n (rows.set k ds))) := by
  have hm : b ∈ a :: bs := List.mem_cons_of_mem _ (List.mem_of_getElem? hb)
  have ne : ∀ (j : Nat) (c : Option V) (s : Sl) (b' : Addr), j ≠ i → σ[j]? = some c → ρ[j]? = some s → OwnsA H c s b' → b' ≠ b := fun j c s b' hj e1 e2 ow hb' => by
    subst hb'
    exact r.dj j i c _ s _ b' hj e1 h1 e2 h ow (q.owns.mpr hm)
  have hab : a ≠ b := fun e => by
    have := q.nd
    rw [List.nodup_cons] at this
    exact this.1 (e ▸ List.mem_of_getElem? hb)
  have q' : NOwn w K Z (upd H b (.lst xs)) a bs (rows.set k ds) := by
    refine ⟨q.za, by rw [upd_ne hab]; exact q.ha, fun m b' hm' => ?_, by rw [List.length_set]; exact q.ln, q.nd⟩
    obtain ⟨xs', ds', g1, g2, g3, g4⟩ := q.it m b' hm'
    by_cases e : m = k
    · subst e
      rw [hb] at hm'
      cases hm'
      have hl : m < rows.length := (List.getElem?_eq_some_iff.mp g1).1
      exact ⟨xs, ds, by simp [hl], g2, upd_same, rd⟩
    · have hne : b' ≠ b := fun z => by
        subst z
        have hn := q.nd
        rw [List.nodup_cons] at hn
        obtain ⟨l1, e1⟩ := List.getElem?_eq_some_iff.mp hm'
        obtain ⟨l2, e2⟩ := List.getElem?_eq_some_iff.mp hb
        exact e ((List.getElem_inj hn.2).mp (e1.trans e2.symm))
      exact ⟨xs', ds', by rw [List.getElem?_set_ne (Ne.symm e)]; exact g1, g2, by rw [upd_ne hne]; exact g3, g4⟩
  have h := r.one (Z' := Z) (H' := upd H b (.lst xs)) i (some (.ref a)) (.n (rows.set k ds)) ⟨fun b' u e => ?_, r.ext.zz, fun b' u e => ?_, r.ext.nw⟩ (Same.refl _) (fun j c s b' hj e1 e2 ow => ⟨(r.keepsO j c s b' e1 e2 ow).1, fun u e => ?_⟩) ⟨a, bs, rfl, q', h0⟩
    (fun j c s b' hj e1 e2 ow e => ?_)
  · have e := set_self σ i none
    rw [h1] at e
    have e : σ.set i (some (.ref a)) = σ := e
    rwa [e] at h
  · rw [upd_ne (fun z => by rw [z, h0 b hm] at e; cases e)]; exact r.ext.hh b' u e
  · rw [upd_ne (fun z => by rw [z, (q.mem hm).1] at e; cases e)]; exact r.zh b' u e
  · rw [upd_ne (ne j c s b' hj e1 e2 ow)]; exact e
  · exact r.dj j i c _ s _ b' hj e1 h1 e2 (by assumption) ow (q.owns.mpr (q'.owns.mp e))
end
end PQ

/-! PQ.2: what an expression computes -/
namespace PQ
open PySem PySem.Spec PyProof.Rows L2

/-! ### the judgements of the layer, at a point -/
def PEat (X : Cx) (e : Expr) (σ : St) (H : Hp) (Q : VK) : Prop := ∀ (pins : List (Addr × Obj)) (s : Shared), Inv X pins σ H s → wpAny (model X.prog X.w) X.A (eval e X.env) (EP X pins σ Q) X.xe s
theorem pe_at {X : Cx} {e : Expr} : PE X e (PEat X e) := ⟨fun pins s σ H Q I h => h pins s I⟩
theorem toAt {X : Cx} {e : Expr} {t : TE} {σ : St} {H : Hp} {Q : VK} (h : PE X e t) (q : t σ H Q) : PEat X e σ H Q := fun pins s I => h.run pins s σ H Q I q
def PTat (X : Cx) (e : Expr) (σ : St) (H : Hp) (Q : Bool → Hp → Prop) : Prop := ∀ (pins : List (Addr × Obj)) (s : Shared), Inv X pins σ H s → wpAny (model X.prog X.w) X.A (isTrue e X.env (eval e X.env)) (TP X pins σ Q) X.xe s
theorem pt_at {X : Cx} {e : Expr} : PT X e (PTat X e) := ⟨fun pins s σ H Q I h => h pins s I⟩
theorem toAtT {X : Cx} {e : Expr} {t : TT} {σ : St} {H : Hp} {Q : Bool → Hp → Prop} (h : PT X e t) (q : t σ H Q) : PTat X e σ H Q := fun pins s I => h.run pins s σ H Q I q
def PWat (X : Cx) (e : Expr) (σ : St) (H : Hp) (Q : Bool → Hp → Prop) : Prop := ∀ (whole : Sem Value) (pins : List (Addr × Obj)) (s : Shared), Inv X pins σ H s → wpAny (model X.prog X.w) X.A (isTrue e X.env whole) (TP X pins σ Q) X.xe s
theorem pw_at {X : Cx} {e : Expr} : PW X e (PWat X e) := ⟨fun whole pins s σ H Q I h => h whole pins s I⟩
theorem toAtW {X : Cx} {e : Expr} {t : TT} {σ : St} {H : Hp} {Q : Bool → Hp → Prop} (h : PW X e t) (q : t σ H Q) : PWat X e σ H Q := fun whole pins s I => h.run whole pins s σ H Q I q
def PAat (X : Cx) (es : List Expr) (σ : St) (H : Hp) (Q : List V → Hp → Prop) : Prop := ∀ (pos : Pos) (pins : List (Addr × Obj)) (s : Shared), Inv X pins σ H s → wpAny (model X.prog X.w) X.A (spliced (backTo pos (starEach es X.env))) (AP X pins σ Q) X.xe s
theorem pa_at {X : Cx} {es : List Expr} : PA X es (PAat X es) := ⟨fun pos pins s σ H Q I h => h pos pins s I⟩
theorem toAtA {X : Cx} {es : List Expr} {t : TA} {σ : St} {H : Hp} {Q : List V → Hp → Prop} (h : PA X es t) (q : t σ H Q) : PAat X es σ H Q := fun pos pins s I => h.run pos pins s σ H Q I q

/-! ### exceptions -/
inductive RX (w : World) (K : PySem.W.Frag) (mg : Str → Option Value) (Z : Hp) : Exc → Value → Option Addr → Prop
  | bare {n : Str} {C : Addr} : mg n = some (.ref C) → RX w K mg Z ⟨n, []⟩ (.ref C) none
  | fld {n f : Str} {C a : Addr} {v : V} {d : D} : mg n = some (.ref C) → Z a = some (.xd [(f, v)]) → RD w K Z v d → RX w K mg Z ⟨n, [(f, d)]⟩ (.ref C) (some a)
theorem RX.mono {w : World} {K : PySem.W.Frag} {mg : Str → Option Value} {Z Z' : Hp} (s : Same Z Z') {x : Exc} {c : Value} {d : Option Addr} (h : RX w K mg Z x c d) : RX w K mg Z' x c d := by
  cases h with
  | bare h => exact .bare h
  | fld h1 h2 h3 => exact .fld h1 (s _ _ h2) (h3.mono s)

def XPost (X : Cx) (W : WX) (Z H : Hp) (σ : St) (x : Exc) : Prop := ∀ cls dx Z' H', Ext Z H Z' H' → RX X.w X.K X.mg Z' x cls dx → W cls dx σ H'
theorem XPost.step {X : Cx} {W : WX} {Z H Z' H' : Hp} {σ : St} {x : Exc} (h : XPost X W Z H σ x) (e : Ext Z H Z' H') : XPost X W Z' H' σ x := fun cls dx Z2 H2 e2 r => h cls dx Z2 H2 (e.trans e2) r
/-- what is to hold of a result -/
def Post {α : Type} (X : Cx) (W : WX) (Z H : Hp) (σ : St) (r : R α) (P : α → Prop) : Prop :=
  match r with
  | .ok a => P a
  | .exc x => XPost X W Z H σ x
  | .stuck => False
/-- a result without exceptions -/
def Post0 {α : Type} (r : R α) (P : α → Prop) : Prop :=
  match r with
  | .ok a => P a
  | _ => False
theorem Post.mono {α : Type} {X : Cx} {W : WX} {Z H : Hp} {σ : St} {r : R α} {P P' : α → Prop} (h : Post X W Z H σ r P) (hp : ∀ a, P a → P' a) : Post X W Z H σ r P' := by
  cases r with
  | ok a => exact hp a h
  | exc x => exact h
  | stuck => exact h
theorem Post.bind {α β : Type} {X : Cx} {W : WX} {Z H : Hp} {σ : St} {r : R α} {k : α → R β} {P : β → Prop} (h : Post X W Z H σ (r >>= k) P) : Post X W Z H σ r fun a => Post X W Z H σ (k a) P := by
  cases r with
  | ok a => exact h
  | exc x => exact h
  | stuck => exact h
theorem Post.step {α : Type} {X : Cx} {W : WX} {Z H Z' H' : Hp} {σ : St} {r : R α} {P : α → Prop} (h : Post X W Z H σ r P) (e : Ext Z H Z' H') : Post X W Z' H' σ r P := by
  cases r with
  | ok a => exact h
  | exc x => exact XPost.step h e
  | stuck => exact h

abbrev EV := Rho → R D
abbrev EA := Rho → R (List D)
abbrev ET := Rho → R Bool
/-- what is asked of a value's end -/
abbrev QV (X : Cx) (Z H : Hp) (Q : VK) (d : D) : Prop := ∀ v Z' H', Ext Z H Z' H' → RD X.w X.K Z' v d → Q v H'
abbrev QB (Z H : Hp) (Q : Bool → Hp → Prop) (b : Bool) : Prop := ∀ Z' H', Ext Z H Z' H' → Q b H'

/-- the expression e computes F, frozen -/
structure Ev (X : Cx) (W : WX) (e : Expr) (F : EV) : Prop where
  go : ∀ {Z0 H0 Z H : Hp} {σ : St} {ρ : Rho} {Q : VK}, Rep X.w X.K Z0 H0 Z H σ ρ → Post X W Z H σ (F ρ) (QV X Z H Q) → PEat X e σ H Q
/-- .. a new list or dict -/
structure Eo (X : Cx) (W : WX) (e : Expr) (F : EV) : Prop where
  go : ∀ {Z0 H0 Z H : Hp} {σ : St} {ρ : Rho} {Q : VK}, Rep X.w X.K Z0 H0 Z H σ ρ → Post X W Z H σ (F ρ) (fun d => ∀ a Z' H', Ext Z H Z' H' → H a = none → Own X.w X.K Z' H' a d → Q (.ref a) H') → PEat X e σ H Q
structure Et (X : Cx) (W : WX) (e : Expr) (F : ET) : Prop where
  go : ∀ {Z0 H0 Z H : Hp} {σ : St} {ρ : Rho} {Q : Bool → Hp → Prop}, Rep X.w X.K Z0 H0 Z H σ ρ → Post X W Z H σ (F ρ) (QB Z H Q) → PTat X e σ H Q
structure Ew (X : Cx) (W : WX) (e : Expr) (F : ET) : Prop where
  go : ∀ {Z0 H0 Z H : Hp} {σ : St} {ρ : Rho} {Q : Bool → Hp → Prop}, Rep X.w X.K Z0 H0 Z H σ ρ → Post X W Z H σ (F ρ) (QB Z H Q) → PWat X e σ H Q
structure Ea (X : Cx) (W : WX) (es : List Expr) (F : EA) : Prop where
  go : ∀ {Z0 H0 Z H : Hp} {σ : St} {ρ : Rho} {Q : List V → Hp → Prop}, Rep X.w X.K Z0 H0 Z H σ ρ → Post X W Z H σ (F ρ) (fun ds => ∀ vs Z' H', Ext Z H Z' H' → RDs X.w X.K Z' vs ds → Q vs H') → PAat X es σ H Q
  len : ∀ ρ ds, F ρ = .ok ds → ds.length = es.length
  se : ∀ a as, es = a :: as → starEach (a :: as) X.env = (false, eval a X.env) :: starEach as X.env
  pl : ∀ pos, (backTo pos (starEach es X.env)).any (·.1) = false
  plt : ∀ a as, es = a :: as → ∀ pos, (backTo pos (starEach as X.env)).any (·.1) = false

section
variable {X : Cx} {W : WX} {a b c e : Expr} {es : List Expr} {pos : Pos} {F G : EV} {Fs : EA}

theorem Ew.et {F' : ET} (h : Ew X W e F') : Et X W e F' := ⟨fun r q pins s I => h.go r q _ pins s I⟩

/-- a new list is frozen -/
theorem Own.rd {w : World} {K : PySem.W.Frag} {Z H Z' H' : Hp} {a : Addr} {d : D} (x : Ext Z H Z' H') (hn : H a = none) (h : Own w K Z' H' a d) : ∃ Z'', Ext Z H Z'' H' ∧ RD w K Z'' (.ref a) d := by
  obtain ⟨o, ho, r, s1, s2⟩ := h.freeze x.zh
  refine ⟨upd Z' a o, ⟨x.hh, x.zz.trans s1, s2, fun b u h1 h2 => ?_⟩, r⟩
  rw [upd_ne (fun z => by rw [z, hn] at h2; cases h2)]
  exact x.nw b u h1 h2
theorem Eo.ev (h : Eo X W e F) : Ev X W e F := by
  refine ⟨fun r q => h.go r (q.mono fun d hd a Z' H' x hn ho => ?_)⟩
  obtain ⟨Z'', x', rd⟩ := Own.rd x hn ho
  exact hd _ _ _ x' rd

/-! ### names, constants -/
def eNone : EV := fun _ => .ok .none
def eBool (b : Bool) : EV := fun _ => .ok (.bool b)
def eInt (i : Int) : EV := fun _ => .ok (.int i)
def eStr (x : Str) : EV := fun _ => .ok (.str x)
def eD (d : D) : EV := fun _ => .ok d
def eVar (i : Nat) : EV := fun ρ => match ρ[i]? with
  | some (.f d) => .ok d
  | _ => .stuck
theorem ev_none {j p} : Ev X W (.Constant .none j p) eNone := ⟨fun r q => toAt pe_non (q _ _ _ (Ext.refl r.zh) .non)⟩
theorem ev_bool {b j p} : Ev X W (.Constant (.bool b) j p) (eBool b) := ⟨fun r q => toAt pe_bl (q _ _ _ (Ext.refl r.zh) (.bl b))⟩
theorem ev_int {i j p} : Ev X W (.Constant (.int i) j p) (eInt i) := ⟨fun r q => toAt pe_int (q _ _ _ (Ext.refl r.zh) (.int i))⟩
theorem ev_str {x j p} : Ev X W (.Constant (.str x) j p) (eStr x) := ⟨fun r q => toAt pe_str (q _ _ _ (Ext.refl r.zh) (.str x))⟩
theorem ev_var (i : Nat) {x : Str} (hN : X.N[i]? = some x := by rfl) (hv : Vis X.env.scope x := by first | exact Or.inl rfl | exact Or.inr (Or.inl rfl) | exact Or.inr (Or.inr rfl)) (hd : (x == ("__debug__" : Str)) = false := by decide)
    (hcd : (x == ("__classdict__" : Str)) = false := by decide) : Ev X W (.Name x pos) (eVar i) := by
  refine ⟨fun {Z0 H0 Z H σ ρ Q} r q => ?_⟩
  unfold eVar at q
  cases h : ρ[i]? with
  | none => rw [h] at q; exact q.elim
  | some s =>
    rw [h] at q
    cases s with
    | f d =>
      obtain ⟨v, hv', rd⟩ := r.getF h
      exact toAt (pe_var hN hv hd hcd) ⟨v, hv', q _ _ _ (Ext.refl r.zh) rd⟩
    | u => exact q.elim
    | o d => exact q.elim
    | n d => exact q.elim
    | x a b c => exact q.elim
    | s d => exact q.elim
/-- a module's constant -/
def GC (w : World) (K : PySem.W.Frag) (mg : Str → Option Value) (x : Str) (d : D) : Prop := ∃ v u, mg x = some u ∧ RelV v u ∧ RD w K (fun _ => none) v d
theorem ev_glob {x : Str} {d : D} (g : GC X.w X.K X.mg x d) (hg : Gl X x := by rfl) (hd : (x == ("__debug__" : Str)) = false := by decide) : Ev X W (.Name x pos) (eD d) := by
  obtain ⟨v, u, h1, h2, h3⟩ := g
  exact ⟨fun {Z0 H0 Z H σ ρ Q} r q => toAt (pe_glob hg h1 h2 hd) (q _ _ _ (Ext.refl r.zh) (h3.mono fun _ _ e => by cases e))⟩

/-! ### lists of expressions -/
def eNil : EA := fun _ => .ok []
def eCons (F : EV) (Fs : EA) : EA := fun ρ => F ρ >>= fun d => Fs ρ >>= fun ds => .ok (d :: ds)
theorem ea_nil : Ea X W [] eNil := ⟨fun r q => toAtA pa_nil (q _ _ _ (Ext.refl r.zh) .nil), fun ρ ds h => (by cases h; rfl), fun _ _ e => (by cases e), fun _ => rfl, fun _ _ e => (by cases e)⟩
theorem ea_cons (ha : Ev X W e F) (hs : Ea X W es Fs) (he : starEach (e :: es) X.env = (false, eval e X.env) :: starEach es X.env := by rfl) : Ea X W (e :: es) (eCons F Fs) := by
  refine ⟨fun {Z0 H0 Z H σ ρ Q} r q => ?_, fun ρ ds h => ?_, fun a as e => (by cases e; exact he), fun pos => ?_, fun a as e => (by cases e; exact hs.pl)⟩
  rotate_left 2
  · rw [he]
    show (false || (backTo pos (starEach es X.env)).any (·.1)) = false
    rw [hs.pl]; rfl
  · refine toAtA (pa_cons pe_at pa_at he) ?_
    refine ha.go r (q.bind.mono fun d hd v Z1 H1 x1 r1 => ?_)
    refine hs.go (r.step x1) ((hd.bind.step x1).mono fun ds hds vs Z2 H2 x2 r2 => ?_)
    exact hds _ _ _ (x1.trans x2) (.cons (r1.mono x2.zz) r2)
  · unfold eCons at h
    cases e1 : F ρ with
    | ok d =>
      rw [e1] at h
      cases e2 : Fs ρ with
      | ok r =>
        rw [R.ok_bind, e2, R.ok_bind] at h
        cases h
        rw [List.length_cons, List.length_cons, hs.len ρ r e2]
      | exc x => rw [R.ok_bind, e2] at h; cases h
      | stuck => rw [R.ok_bind, e2] at h; cases h
    | exc x => rw [e1] at h; cases h
    | stuck => rw [e1] at h; cases h
def eTup (Fs : EA) : EV := fun ρ => Fs ρ >>= fun ds => .ok (.tuple ds)
def eLst (Fs : EA) : EV := fun ρ => Fs ρ >>= fun ds => .ok (.list ds)
theorem Post.eq {α : Type} {W : WX} {Z H : Hp} {σ : St} {r : R α} {P : α → Prop} (h : Post X W Z H σ r P) : Post X W Z H σ r fun a => r = .ok a ∧ P a := by
  cases r with
  | ok a => exact ⟨rfl, h⟩
  | exc x => exact h
  | stuck => exact h
theorem ev_tup {k : Nat} (h : Ea X W es Fs) (hl : es.length ≤ 1000 := by decide) : Ev X W (.Tuple es k pos) (eTup Fs) := by
  refine ⟨fun {Z0 H0 Z H σ ρ Q} r q => toAt (pe_tup pa_at) ?_⟩
  refine h.go r (q.bind.eq.mono fun ds hds vs Z1 H1 x1 r1 => ?_)
  have hl' := h.len ρ ds hds.1
  refine ⟨by rw [r1.length, hl']; exact Nat.le_of_lt (small1000 hl), fun p hp => ?_⟩
  exact hds.2 _ _ _ (x1.trans (Ext.new x1.zh hp)) (.tup (.inl (.inl upd_same)) (r1.mono (Ext.new (o := .tup vs) x1.zh hp).zz))
theorem eo_lst (h : Ea X W es Fs) (hl : es.length ≤ 1000 := by decide) : Eo X W (.List es pos) (eLst Fs) := by
  refine ⟨fun {Z0 H0 Z H σ ρ Q} r q => toAt (pe_lst pa_at) ?_⟩
  refine h.go r (q.bind.eq.mono fun ds hds vs Z1 H1 x1 r1 => ?_)
  have hl' := h.len ρ ds hds.1
  refine ⟨by rw [r1.length, hl']; exact Nat.le_of_lt (small1000 hl), fun p hp => ?_⟩
  have zp : Z1 p = none := by
    cases e : Z1 p with
    | none => rfl
    | some u => have := x1.zh p u e; rw [hp] at this; cases this
  refine hds.2 _ _ _ (x1.trans (Ext.newO x1.zh hp)) ?_ (.lst zp upd_same r1)
  cases e : H p with
  | none => rfl
  | some u => have := x1.hh p u e; rw [hp] at this; cases this

/-! ### operators -/
/-- the rule r of an operator computes f -/
def OpD (X : Cx) (r : R2) (f : D → D → R D) : Prop := ∀ (Z H : Hp) (x y : V) (dx dy : D) (Q : VK), Same Z H → RD X.w X.K Z x dx → RD X.w X.K Z y dy → Post0 (f dx dy) (QV X Z H Q) → r x y H Q
def UnD (X : Cx) (r : V → Hp → VK → Prop) (f : D → R D) : Prop := ∀ (Z H : Hp) (x : V) (dx : D) (Q : VK), Same Z H → RD X.w X.K Z x dx → Post0 (f dx) (QV X Z H Q) → r x H Q
def CaD (X : Cx) (r : List V → Hp → VK → Prop) (f : List D → R D) : Prop := ∀ (Z H : Hp) (xs : List V) (ds : List D) (Q : VK), Same Z H → RDs X.w X.K Z xs ds → Post0 (f ds) (QV X Z H Q) → r xs H Q
/-- f never raises -/
def R.clean {α : Type} : R α → Prop
  | .exc _ => False
  | _ => True
def e1 (f : D → R D) (F : EV) : EV := fun ρ => F ρ >>= f
def e2 (f : D → D → R D) (F G : EV) : EV := fun ρ => F ρ >>= fun x => G ρ >>= fun y => f x y
def eA (f : List D → R D) (Fs : EA) : EV := fun ρ => Fs ρ >>= f
theorem Post.to0 {α : Type} {W : WX} {Z H : Hp} {σ : St} {r : R α} {P : α → Prop} (c : r.clean) (h : Post X W Z H σ r P) : Post0 r P := by
  cases r with
  | ok a => exact h
  | exc x => exact c.elim
  | stuck => exact h
theorem ev_2 {r : R2} {f : D → D → R D} (h : ∀ {ta tb : TE}, PE X a ta → PE X b tb → PE X e (tOp r ta tb)) (ho : OpD X r f) (cl : ∀ x y, (f x y).clean) (ha : Ev X W a F) (hb : Ev X W b G) : Ev X W e (e2 f F G) := by
  refine ⟨fun {Z0 H0 Z H σ ρ Q} r q => toAt (h pe_at pe_at) ?_⟩
  refine ha.go r (q.bind.mono fun d hd v Z1 H1 x1 r1 => ?_)
  refine hb.go (r.step x1) ((hd.bind.step x1).mono fun d2 hd2 v2 Z2 H2 x2 r2 => ?_)
  refine ho Z2 H2 v v2 d d2 Q x2.zh (r1.mono x2.zz) r2 ?_
  have p := hd2.to0 (cl d d2)
  cases hf : f d d2 with
  | ok z => rw [hf] at p; exact fun v3 Z3 H3 x3 r3 => p v3 Z3 H3 ((x1.trans x2).trans x3) r3
  | exc x => rw [hf] at p; exact p.elim
  | stuck => rw [hf] at p; exact p.elim
theorem ev_1 {r : V → Hp → VK → Prop} {f : D → R D} (h : ∀ {ta : TE}, PE X a ta → PE X e (tUn r ta)) (ho : UnD X r f) (cl : ∀ x, (f x).clean) (ha : Ev X W a F) : Ev X W e (e1 f F) := by
  refine ⟨fun {Z0 H0 Z H σ ρ Q} r q => toAt (h pe_at) ?_⟩
  refine ha.go r (q.bind.mono fun d hd v Z1 H1 x1 r1 => ?_)
  refine ho Z1 H1 v d Q x1.zh r1 ?_
  have p := hd.to0 (cl d)
  cases hf : f d with
  | ok z => rw [hf] at p; exact fun v3 Z3 H3 x3 r3 => p v3 Z3 H3 (x1.trans x3) r3
  | exc x => rw [hf] at p; exact p.elim
  | stuck => rw [hf] at p; exact p.elim
theorem ev_A {r : List V → Hp → VK → Prop} {f : List D → R D} (h : ∀ {ta : TA}, PA X es ta → PE X e (tCB r ta)) (ho : CaD X r f) (cl : ∀ x, (f x).clean) (ha : Ea X W es Fs) : Ev X W e (eA f Fs) := by
  refine ⟨fun {Z0 H0 Z H σ ρ Q} r q => toAt (h pa_at) ?_⟩
  refine ha.go r (q.bind.mono fun d hd v Z1 H1 x1 r1 => ?_)
  refine ho Z1 H1 v d Q x1.zh r1 ?_
  have p := hd.to0 (cl d)
  cases hf : f d with
  | ok z => rw [hf] at p; exact fun v3 Z3 H3 x3 r3 => p v3 Z3 H3 (x1.trans x3) r3
  | exc x => rw [hf] at p; exact p.elim
  | stuck => rw [hf] at p; exact p.elim
end
end PQ

/-! PQ.3: operators -/
namespace PQ
open PySem PySem.Spec PyProof.Rows L2
open PySem.W (alike alikeAll dataLt rcLt_alike)

/-- ok if c -/
def guardR {α : Type} (c : Bool) (a : α) : R α := if c = true then .ok a else .stuck
theorem guardR_true {α : Type} (a : α) : guardR true a = .ok a := rfl
theorem guardR_of {α : Type} {c : Bool} (h : c = true) (a : α) : guardR c a = .ok a := by unfold guardR; rw [if_pos h]
theorem clean_guard {α : Type} (c : Bool) (a : α) : (guardR c a).clean := by unfold guardR; split <;> trivial
theorem Post0.guard {α : Type} {c : Bool} {a : α} {P : α → Prop} (h : Post0 (guardR c a) P) : c = true ∧ P a := by
  unfold guardR at h
  split at h
  · exact ⟨by assumption, h⟩
  · exact h.elim

def fits (n : Nat) : Bool := decide (n ≤ 16777216)
theorem fits_le {n : Nat} (h : fits n = true) : n ≤ sizeLine := by
  have := of_decide_eq_true h
  rw [sizeLine_eq]; exact this

def dAdd : D → D → R D
  | .int i, .int j => .ok (.int (i + j))
  | .str a, .str b => guardR (fits (a.length + b.length)) (.str (a ++ b))
  | .tuple xs, .tuple ys => guardR (fits (xs.length + ys.length)) (.tuple (xs ++ ys))
  | .list xs, .list ys => guardR (fits (xs.length + ys.length)) (.list (xs ++ ys))
  | _, _ => .stuck
def dSub : D → D → R D
  | .int i, .int j => .ok (.int (i - j))
  | _, _ => .stuck
def mulOk (i j : Int) : Bool := decide (i.natAbs < 18446744073709551616) || decide (j.natAbs < 18446744073709551616)
def repOk (n : Nat) (k : Int) : Bool := decide (-1000000 ≤ k) && decide (k ≤ 1000000) && fits (n * k.toNat)
def dMul : D → D → R D
  | .int i, .int j => guardR (mulOk i j) (.int (i * j))
  | .str a, .int k => guardR (decide (0 ≤ k) && repOk a.length k) (.str ⟨(List.replicate k.toNat a.cps.toList).flatten.toArray⟩)
  | .list xs, .int k => guardR (repOk xs.length k) (.list (List.replicate k.toNat xs).flatten)
  | .tuple xs, .int k => guardR (!xs.isEmpty && decide (2 ≤ k) && decide (k ≤ 1000) && decide (xs.length ≤ 1000)) (.tuple (List.replicate k.toNat xs).flatten)
  | _, _ => .stuck
def divOk (j : Int) : Bool := decide (0 < j) && decide (j < 1073741824)
def dFdiv : D → D → R D
  | .int i, .int j => guardR (divOk j) (.int (i / j))
  | _, _ => .stuck
def dMod : D → D → R D
  | .int i, .int j => guardR (decide (0 < j)) (.int (i % j))
  | _, _ => .stuck
def dPow : D → D → R D
  | .int i, .int j => guardR (decide (0 ≤ j) && decide (j ≤ 1000000) && decide (i.natAbs < 18446744073709551616)) (.int (i ^ j.toNat))
  | _, _ => .stuck
def dShl : D → D → R D
  | .int i, .int j => guardR (decide (0 ≤ j) && decide (j ≤ 1000000) && decide (i.natAbs < 18446744073709551616)) (.int (i * 2 ^ j.toNat))
  | _, _ => .stuck
def dNeg : D → R D
  | .int i => .ok (.int (-i))
  | _ => .stuck

section
variable {X : Cx} {W : WX} {a b c e : Expr} {es : List Expr} {pos : Pos} {F G : EV} {Fs : EA}
theorem cl_add (x y : D) : (dAdd x y).clean := by cases x <;> cases y <;> first | trivial | exact clean_guard _ _
theorem cl_sub (x y : D) : (dSub x y).clean := by cases x <;> cases y <;> trivial
theorem cl_mul (x y : D) : (dMul x y).clean := by cases x <;> cases y <;> first | trivial | exact clean_guard _ _
theorem cl_fdiv (x y : D) : (dFdiv x y).clean := by cases x <;> cases y <;> first | trivial | exact clean_guard _ _
theorem cl_mod (x y : D) : (dMod x y).clean := by cases x <;> cases y <;> first | trivial | exact clean_guard _ _
theorem cl_pow (x y : D) : (dPow x y).clean := by cases x <;> cases y <;> first | trivial | exact clean_guard _ _
theorem cl_shl (x y : D) : (dShl x y).clean := by cases x <;> cases y <;> first | trivial | exact clean_guard _ _
theorem cl_neg (x : D) : (dNeg x).clean := by cases x <;> trivial

theorem SqT.mono {K : PySem.W.Frag} {Z H : Hp} (s : Same Z H) {p : Addr} {xs : List V} (h : SqT K Z p xs) : SqT K H p xs := by
  rcases h with (h | ⟨o, h⟩) | h
  · exact .inl (.inl (s _ _ h))
  · exact .inl (.inr ⟨o, s _ _ h⟩)
  · exact .inr h
theorem zfree {Z H : Hp} (s : Same Z H) {p : Addr} (h : H p = none) : Z p = none := by
  cases e : Z p with
  | none => rfl
  | some u => have := s p u e; rw [h] at this; cases this

abbrev rAddAll (K : PySem.W.Frag) : R2 := fun x y H Q => (fun x y H Q => rI0 (fun i j => .int (i + j)) x y H Q ∨ (∃ i j, x = .str i ∧ y = .str j ∧ i.length + j.length ≤ sizeLine ∧ Q (.str (i ++ j)) H)) x y H Q ∨ (rCatA K x y H Q ∨ rCat x y H Q)
theorem op_addAll : OpR X (binaryOp .Add) (rAddAll X.K) := (op_add.or op_add_str).or (op_catA.or op_cat)
theorem od_add : OpD X (rAddAll X.K) dAdd := by
  intro Z H x y dx dy Q s rx ry h
  cases rx <;> cases ry <;> try exact h.elim
  · exact .inl (.inl ⟨_, _, rfl, rfl, h _ _ _ (Ext.refl s) (.int _)⟩)
  · obtain ⟨hc, h⟩ := h.guard
    exact .inl (.inr ⟨_, _, rfl, rfl, fits_le hc, h _ _ _ (Ext.refl s) (.str _)⟩)
  · rename_i a1 xs ds h1 r1 a2 ys es h2 r2
    obtain ⟨hc, h⟩ := h.guard
    refine .inr (.inr ⟨a1, a2, xs, ys, rfl, rfl, s _ _ h1, s _ _ h2, by rw [r1.length, r2.length]; exact fits_le hc, fun p hp => ?_⟩)
    have x := Ext.new (o := .lst (xs ++ ys)) s hp
    exact h _ _ _ x (.lst upd_same ((r1.append r2).mono x.zz))
  · rename_i a1 xs ds h1 r1 a2 ys es h2 r2
    obtain ⟨hc, h⟩ := h.guard
    refine .inr (.inl ⟨a1, a2, xs, ys, rfl, rfl, SqT.mono s h1, SqT.mono s h2, by rw [r1.length, r2.length]; exact fits_le hc, fun e => ?_, fun _ e => ?_, fun _ _ p hp => ?_⟩)
    · subst e
      cases r1
      exact h _ _ _ (Ext.refl s) (.tup h2 r2)
    · subst e
      cases r2
      refine h _ _ _ (Ext.refl s) (.tup h1 ?_)
      rw [List.append_nil]; exact r1
    · have x := Ext.new (o := .tup (xs ++ ys)) s hp
      exact h _ _ _ x (.tup (.inl (.inl upd_same)) ((r1.append r2).mono x.zz))
theorem ev_add (ha : Ev X W a F) (hb : Ev X W b G) : Ev X W (.BinOp a .Add b pos) (e2 dAdd F G) := ev_2 (pe_op op_addAll) od_add cl_add ha hb
theorem od_sub : OpD X (rI0 fun i j => .int (i - j)) dSub := by
  intro Z H x y dx dy Q s rx ry h
  cases rx <;> cases ry <;> try exact h.elim
  exact ⟨_, _, rfl, rfl, h _ _ _ (Ext.refl s) (.int _)⟩
theorem ev_sub (ha : Ev X W a F) (hb : Ev X W b G) : Ev X W (.BinOp a .Sub b pos) (e2 dSub F G) := ev_2 (pe_op op_sub) od_sub cl_sub ha hb

/-- str * int -/
def rMulS : R2 := fun x y H Q => ∃ z k, x = .str z ∧ y = .int k ∧ 0 ≤ k ∧ k ≤ 1000000 ∧ z.length * k.toNat ≤ sizeLine ∧ Q (.str ⟨(List.replicate k.toNat z.cps.toList).flatten.toArray⟩) H
theorem str_ext {x y : Str} (h : x.cps.toList = y.cps.toList) : x = y := Str.ext' (Array.toList_inj.mp h)
theorem foldl_app (x : Array Nat) : ∀ (n : Nat) (acc : Array Nat), (List.foldl (fun x1 x2 => x1 ++ x2) acc (List.replicate n x)).toList = acc.toList ++ (List.replicate n x.toList).flatten
  | 0, acc => by simp
  | n + 1, acc => by
    rw [List.replicate_succ, List.foldl_cons, foldl_app x n, List.replicate_succ, List.flatten_cons, ← List.append_assoc]
    congr 1
    simp
theorem txt_mul (z : Str) (k : Int) (h0 : 0 ≤ k) : Txt.mul z k = ⟨(List.replicate k.toNat z.cps.toList).flatten.toArray⟩ := by
  apply str_ext
  unfold Txt.mul
  split
  · have : k = 0 := by omega
    subst this; rfl
  · split
    · rename_i h
      rw [Bool.or_eq_true, beq_iff_eq, beq_iff_eq] at h
      rcases h with h | h
      · subst h; simp
      · have : z.cps.toList = [] := by
          apply List.eq_nil_of_length_eq_zero
          rw [Array.length_toList]; exact h
        rw [this]; simp
    · show (List.foldl (fun x1 x2 => x1 ++ x2) #[] (List.replicate k.toNat z.cps)).toList = _
      rw [foldl_app]; simp
theorem op_mulS : OpR X (binaryOp .Mult) rMulS := by
  intro pins s σ H x y v u Q I rx ry h
  obtain ⟨z, k, rfl, rfl, h0, h1, hz, q⟩ := h
  obtain ⟨t, rfl⟩ := rx
  obtain ⟨t', rfl⟩ := ry
  rw [← txt_mul z k h0] at q
  refine SB.mul ⟨?_, fun h1' _ => ?_, fun h1' _ => ?_⟩ fun t2 k2 => ⟨.str _, H, I.tok _, ⟨_, rfl⟩, q⟩
  · rw [Bool.or_eq_false_iff]
    exact ⟨decide_eq_false (by omega), decide_eq_false (by omega)⟩
  · have hl : (z.length : Int) ≤ 16777216 := by
      have hk : 1 ≤ k.toNat := by omega
      have : z.length * 1 ≤ z.length * k.toNat := Nat.mul_le_mul_left _ hk
      have := sizeLine_eq
      omega
    have h2 : (16777216 : Int) ≤ (2 ^ 63 - 1) / k := by
      apply Int.le_ediv_of_mul_le (by omega)
      have : 16777216 * k ≤ 16777216 * 1000000 := by omega
      omega
    omega
  · unfold Builtin.Str.tooLong
    exact decide_eq_false (by omega)

theorem rep_fits {n : Nat} {k : Int} (h : repOk n k = true) : -1000000 ≤ k ∧ k ≤ 1000000 ∧ n * k.toNat ≤ sizeLine := by
  unfold repOk at h
  rw [Bool.and_eq_true, Bool.and_eq_true] at h
  exact ⟨of_decide_eq_true h.1.1, of_decide_eq_true h.1.2, fits_le h.2⟩
abbrev rMulAll (K : PySem.W.Frag) : R2 := fun x y H Q => (fun x y H Q => rI CMul (fun i j => .int (i * j)) x y H Q ∨ rMulS x y H Q) x y H Q ∨ (rRep x y H Q ∨ rRepT K x y H Q)
theorem op_mulAll : OpR X (binaryOp .Mult) (rMulAll X.K) := (op_mul.or op_mulS).or (op_rep.or op_repT)
theorem od_mul : OpD X (rMulAll X.K) dMul := by
  intro Z H x y dx dy Q s rx ry h
  cases rx <;> cases ry <;> try exact h.elim
  · obtain ⟨hc, h⟩ := h.guard
    refine .inl (.inl ⟨_, _, rfl, rfl, ?_, h _ _ _ (Ext.refl s) (.int _)⟩)
    unfold mulOk at hc
    rw [Bool.or_eq_true, decide_eq_true_eq, decide_eq_true_eq] at hc
    unfold CMul
    omega
  · obtain ⟨hc, h⟩ := h.guard
    rw [Bool.and_eq_true, decide_eq_true_eq] at hc
    obtain ⟨h1, h2, h3⟩ := rep_fits hc.2
    exact .inl (.inr ⟨_, _, rfl, rfl, hc.1, h2, h3, h _ _ _ (Ext.refl s) (.str _)⟩)
  · rename_i a1 xs ds h1 r1 k
    obtain ⟨hc, h⟩ := h.guard
    obtain ⟨c1, c2, c3⟩ := rep_fits hc
    refine .inr (.inl ⟨a1, k, xs, rfl, rfl, s _ _ h1, by omega, by omega, by rw [r1.length]; exact c3, fun p hp => ?_⟩)
    have x := Ext.new (o := .lst (List.replicate k.toNat xs).flatten) s hp
    exact h _ _ _ x (.lst upd_same ((r1.rep _).mono x.zz))
  · rename_i a1 xs ds h1 r1 k
    obtain ⟨hc, h⟩ := h.guard
    simp only [Bool.and_eq_true, decide_eq_true_eq, Bool.not_eq_true'] at hc
    refine .inr (.inr ⟨a1, k, xs, rfl, rfl, SqT.mono s h1, ?_, hc.1.1.2, hc.1.2, by rw [r1.length]; exact hc.2, fun p hp => ?_⟩)
    · intro e
      subst e
      cases r1
      simp at hc
    · have x := Ext.new (o := .tup (List.replicate k.toNat xs).flatten) s hp
      exact h _ _ _ x (.tup (.inl (.inl upd_same)) ((r1.rep _).mono x.zz))
theorem ev_mul (ha : Ev X W a F) (hb : Ev X W b G) : Ev X W (.BinOp a .Mult b pos) (e2 dMul F G) := ev_2 (pe_op op_mulAll) od_mul cl_mul ha hb
theorem od_fdiv : OpD X (rI CDiv fun i j => .int (i / j)) dFdiv := by
  intro Z H x y dx dy Q s rx ry h
  cases rx <;> cases ry <;> try exact h.elim
  obtain ⟨hc, h⟩ := h.guard
  unfold divOk at hc
  rw [Bool.and_eq_true, decide_eq_true_eq, decide_eq_true_eq] at hc
  exact ⟨_, _, rfl, rfl, hc, h _ _ _ (Ext.refl s) (.int _)⟩
theorem ev_fdiv (ha : Ev X W a F) (hb : Ev X W b G) : Ev X W (.BinOp a .FloorDiv b pos) (e2 dFdiv F G) := ev_2 (pe_op op_fdiv) od_fdiv cl_fdiv ha hb
theorem od_mod : OpD X (rI (fun _ j => 0 < j) fun i j => .int (i % j)) dMod := by
  intro Z H x y dx dy Q s rx ry h
  cases rx <;> cases ry <;> try exact h.elim
  obtain ⟨hc, h⟩ := h.guard
  exact ⟨_, _, rfl, rfl, of_decide_eq_true hc, h _ _ _ (Ext.refl s) (.int _)⟩
theorem ev_mod (ha : Ev X W a F) (hb : Ev X W b G) : Ev X W (.BinOp a .Mod b pos) (e2 dMod F G) := ev_2 (pe_op op_mod) od_mod cl_mod ha hb
theorem od_pow : OpD X (rI CPow fun i j => .int (i ^ j.toNat)) dPow := by
  intro Z H x y dx dy Q s rx ry h
  cases rx <;> cases ry <;> try exact h.elim
  obtain ⟨hc, h⟩ := h.guard
  simp only [Bool.and_eq_true, decide_eq_true_eq] at hc
  exact ⟨_, _, rfl, rfl, ⟨hc.1.1, hc.1.2, by omega⟩, h _ _ _ (Ext.refl s) (.int _)⟩
theorem ev_pow (ha : Ev X W a F) (hb : Ev X W b G) : Ev X W (.BinOp a .Pow b pos) (e2 dPow F G) := ev_2 (pe_op op_pow) od_pow cl_pow ha hb
theorem od_shl : OpD X (rI CPow fun i j => .int (i * 2 ^ j.toNat)) dShl := by
  intro Z H x y dx dy Q s rx ry h
  cases rx <;> cases ry <;> try exact h.elim
  obtain ⟨hc, h⟩ := h.guard
  simp only [Bool.and_eq_true, decide_eq_true_eq] at hc
  exact ⟨_, _, rfl, rfl, ⟨hc.1.1, hc.1.2, by omega⟩, h _ _ _ (Ext.refl s) (.int _)⟩
theorem ev_shl (ha : Ev X W a F) (hb : Ev X W b G) : Ev X W (.BinOp a .LShift b pos) (e2 dShl F G) := ev_2 (pe_op op_shl) od_shl cl_shl ha hb
theorem ud_neg : UnD X (rU fun i => .int (-i)) dNeg := by
  intro Z H x dx Q s rx h
  cases rx <;> try exact h.elim
  exact ⟨_, rfl, h _ _ _ (Ext.refl s) (.int _)⟩
theorem ev_neg (ha : Ev X W a F) : Ev X W (.UnaryOp .USub a pos) (e1 dNeg F) := ev_1 (pe_un un_neg) ud_neg cl_neg ha

/-! ### comparisons -/
def eqOk (x y : D) : Bool := x.plain && y.plain && decide (min x.depth y.depth ≤ 60)
def dEq (x y : D) : R D := guardR (eqOk x y) (.bool (PyData.eqv x y))
def dNe (x y : D) : R D := guardR (eqOk x y) (.bool (!PyData.eqv x y))
theorem cl_eq (x y : D) : (dEq x y).clean := clean_guard _ _
theorem cl_ne (x y : D) : (dNe x y).clean := clean_guard _ _
mutual
theorem plain_noDict : ∀ d : D, d.plain = true → noDict d = true
  | .none, _ => rfl
  | .bool _, _ => rfl
  | .int _, _ => rfl
  | .str _, _ => rfl
  | .list xs, h => by
    rw [noDict]; exact plains_noDict xs (by simpa [PyData.plain] using h)
  | .tuple xs, h => by
    rw [noDict]; exact plains_noDict xs (by simpa [PyData.plain] using h)
  | .dict _, h => by simp [PyData.plain] at h
theorem plains_noDict : ∀ d : List D, PyData.plainAll d = true → noDicts d = true
  | [], _ => rfl
  | d :: ds, h => by
    simp only [PyData.plainAll, Bool.and_eq_true] at h
    simp only [noDicts, plain_noDict d h.1, plains_noDict ds h.2, Bool.and_self]
end
theorem Dp.mono2 {K : PySem.W.Frag} {Z H : Hp} {w : World} (s : Same Z H) {v : V} {d : D} (h : RD w K Z v d) (p : d.plain = true) : Dp K H v d := (h.mono s).dp (plain_noDict d p)
def rEqP (K : PySem.W.Frag) (neg : Bool) : R2 := fun x y H Q => ∃ d e, Dp K H x d ∧ Dp K H y e ∧ eqOk d e = true ∧ Q (.bl (if neg then !PyData.eqv d e else PyData.eqv d e)) H
theorem op_eqP (hu : X.A.units + 64 < cLine) : OpR X (compareOp .Eq) (rEqP X.K false) := by
  intro pins s σ H x y v u Q I rx ry h
  obtain ⟨d, e, hd, he, sd, q⟩ := h
  obtain ⟨as, r1⟩ := Dp.reads I d x v hd rx
  obtain ⟨bs, r2⟩ := Dp.reads I e y u he ry
  simp only [eqOk, Bool.and_eq_true, decide_eq_true_eq] at sd
  exact SeqAt.eq_plain r1 r2 sd.1.1 sd.1.2 (by omega) ⟨.bl _, H, I, rfl, q⟩
theorem op_neP (hu : X.A.units + 64 < cLine) : OpR X (compareOp .NotEq) (rEqP X.K true) := by
  intro pins s σ H x y v u Q I rx ry h
  obtain ⟨d, e, hd, he, sd, q⟩ := h
  obtain ⟨as, r1⟩ := Dp.reads I d x v hd rx
  obtain ⟨bs, r2⟩ := Dp.reads I e y u he ry
  simp only [eqOk, Bool.and_eq_true, decide_eq_true_eq] at sd
  exact SeqAt.ne_plain r1 r2 sd.1.1 sd.1.2 (by omega) ⟨.bl _, H, I, rfl, q⟩
theorem eqOk_plain {x y : D} (h : eqOk x y = true) : x.plain = true ∧ y.plain = true := by
  simp only [eqOk, Bool.and_eq_true] at h
  exact h.1
theorem od_eq : OpD X (rEqP X.K false) dEq := by
  intro Z H x y dx dy Q s rx ry h
  obtain ⟨hc, h⟩ := h.guard
  obtain ⟨p1, p2⟩ := eqOk_plain hc
  exact ⟨dx, dy, Dp.mono2 s rx p1, Dp.mono2 s ry p2, hc, h _ _ _ (Ext.refl s) (.bl _)⟩
theorem od_ne : OpD X (rEqP X.K true) dNe := by
  intro Z H x y dx dy Q s rx ry h
  obtain ⟨hc, h⟩ := h.guard
  obtain ⟨p1, p2⟩ := eqOk_plain hc
  exact ⟨dx, dy, Dp.mono2 s rx p1, Dp.mono2 s ry p2, hc, h _ _ _ (Ext.refl s) (.bl _)⟩
/-- there is room for what an operator does -/
abbrev HasRoom (X : Cx) : Prop := X.A.units + 100 < cLine
theorem ev_eq (hu : HasRoom X) (ha : Ev X W a F) (hb : Ev X W b G) : Ev X W (.Compare a [.Eq] [b] pos) (e2 dEq F G) :=
  ev_2 (fun p q => pe_cmpR (op_eqP (by have : X.A.units + 100 < cLine := hu; omega)) p q (nomark _)) od_eq cl_eq ha hb
theorem ev_ne (hu : HasRoom X) (ha : Ev X W a F) (hb : Ev X W b G) : Ev X W (.Compare a [.NotEq] [b] pos) (e2 dNe F G) :=
  ev_2 (fun p q => pe_cmpR (op_neP (by have : X.A.units + 100 < cLine := hu; omega)) p q (nomark _)) od_ne cl_ne ha hb

/-- order: ints; texts, tuples by < -/
def ltOk (x y : D) : Bool := alike x y && x.plain && y.plain && (match x with | .none => false | _ => true) && decide (min x.depth y.depth ≤ 60)
def dLt (x y : D) : R D := match x, y with
  | .int i, .int j => .ok (.bool (decide (i < j)))
  | x, y => guardR (ltOk x y) (.bool (dataLt x y))
def dLe : D → D → R D
  | .int i, .int j => .ok (.bool (decide (i ≤ j)))
  | _, _ => .stuck
def dGt : D → D → R D
  | .int i, .int j => .ok (.bool (decide (j < i)))
  | _, _ => .stuck
def dGe : D → D → R D
  | .int i, .int j => .ok (.bool (decide (j ≤ i)))
  | _, _ => .stuck
theorem cl_lt (x y : D) : (dLt x y).clean := by unfold dLt; split <;> first | trivial | exact clean_guard _ _
theorem cl_le (x y : D) : (dLe x y).clean := by cases x <;> cases y <;> trivial
theorem cl_gt (x y : D) : (dGt x y).clean := by cases x <;> cases y <;> trivial
theorem cl_ge (x y : D) : (dGe x y).clean := by cases x <;> cases y <;> trivial
def rLtP (K : PySem.W.Frag) : R2 := fun x y H Q => ∃ d e, Dp K H x d ∧ Dp K H y e ∧ ltOk d e = true ∧ Q (.bl (dataLt d e)) H
theorem op_ltP (hu : X.A.units + 64 < cLine) : OpR X (compareOp .Lt) (rLtP X.K) := by
  intro pins s σ H x y v u Q I rx ry h
  obtain ⟨d, e, hd, he, sd, q⟩ := h
  obtain ⟨as, r1⟩ := Dp.reads I d x v hd rx
  obtain ⟨bs, r2⟩ := Dp.reads I e y u he ry
  simp only [ltOk, Bool.and_eq_true, decide_eq_true_eq] at sd
  exact rcLt_alike d e X.A s v u as bs r1 r2 sd.1.1.1.1 (fun z => by rw [z] at sd; simp at sd) (by omega) X.prog X.w X.xe _ ⟨.bl _, H, I, rfl, q⟩
abbrev rLtAll (K : PySem.W.Frag) : R2 := fun x y H Q => rI0 (fun i j => .bl (decide (i < j))) x y H Q ∨ rLtP K x y H Q
theorem od_lt : OpD X (rLtAll X.K) dLt := by
  intro Z H x y dx dy Q s rx ry h
  unfold dLt at h
  split at h
  · cases rx; cases ry
    exact .inl ⟨_, _, rfl, rfl, h _ _ _ (Ext.refl s) (.bl _)⟩
  · obtain ⟨hc, h⟩ := h.guard
    have hc' := hc
    simp only [ltOk, Bool.and_eq_true] at hc'
    exact .inr ⟨dx, dy, Dp.mono2 s rx hc'.1.1.1.2, Dp.mono2 s ry hc'.1.1.2, hc, h _ _ _ (Ext.refl s) (.bl _)⟩
theorem ev_lt (hu : HasRoom X) (ha : Ev X W a F) (hb : Ev X W b G) : Ev X W (.Compare a [.Lt] [b] pos) (e2 dLt F G) :=
  ev_2 (fun p q => pe_cmpR (op_lt.or (op_ltP (by have : X.A.units + 100 < cLine := hu; omega))) p q (nomark _)) od_lt cl_lt ha hb
theorem od_le : OpD X (rI0 fun i j => .bl (decide (i ≤ j))) dLe := by
  intro Z H x y dx dy Q s rx ry h
  cases rx <;> cases ry <;> try exact h.elim
  exact ⟨_, _, rfl, rfl, h _ _ _ (Ext.refl s) (.bl _)⟩
theorem od_gt : OpD X (rI0 fun i j => .bl (decide (j < i))) dGt := by
  intro Z H x y dx dy Q s rx ry h
  cases rx <;> cases ry <;> try exact h.elim
  exact ⟨_, _, rfl, rfl, h _ _ _ (Ext.refl s) (.bl _)⟩
theorem od_ge : OpD X (rI0 fun i j => .bl (decide (j ≤ i))) dGe := by
  intro Z H x y dx dy Q s rx ry h
  cases rx <;> cases ry <;> try exact h.elim
  exact ⟨_, _, rfl, rfl, h _ _ _ (Ext.refl s) (.bl _)⟩
theorem ev_le (ha : Ev X W a F) (hb : Ev X W b G) : Ev X W (.Compare a [.LtE] [b] pos) (e2 dLe F G) := ev_2 (fun p q => pe_cmpR op_le p q (nomark _)) od_le cl_le ha hb
theorem ev_gt (ha : Ev X W a F) (hb : Ev X W b G) : Ev X W (.Compare a [.Gt] [b] pos) (e2 dGt F G) := ev_2 (fun p q => pe_cmpR op_gt p q (nomark _)) od_gt cl_gt ha hb
theorem ev_ge (ha : Ev X W a F) (hb : Ev X W b G) : Ev X W (.Compare a [.GtE] [b] pos) (e2 dGe F G) := ev_2 (fun p q => pe_cmpR op_ge p q (nomark _)) od_ge cl_ge ha hb

/-- is None, is not None -/
def isNone : D → Bool
  | .none => true
  | _ => false
def dIsN (x : D) : R D := .ok (.bool (isNone x))
def dNotN (x : D) : R D := .ok (.bool (!isNone x))
theorem rd_none {w : World} {K : PySem.W.Frag} {Z : Hp} {v : V} {d : D} (h : RD w K Z v d) : decide (v = .non) = isNone d := by
  cases h <;> first | rfl | (simp [isNone])
theorem ev_isN {j p} (ha : Ev X W a F) : Ev X W (.Compare a [.Is] [.Constant .none j p] pos) (e1 dIsN F) := by
  refine ⟨fun {Z0 H0 Z H σ ρ Q} r q => toAt (pe_cmp (pc_isN pe_at) rfl) ?_⟩
  refine ha.go r (q.bind.mono fun d hd v Z1 H1 x1 r1 => ?_)
  show Q (.bl (decide (v = .non))) H1
  rw [rd_none r1]
  exact hd _ _ _ x1 (.bl _)
theorem ev_notN {j p} (ha : Ev X W a F) : Ev X W (.Compare a [.IsNot] [.Constant .none j p] pos) (e1 dNotN F) := by
  refine ⟨fun {Z0 H0 Z H σ ρ Q} r q => toAt (pe_cmp (pc_notN pe_at) rfl) ?_⟩
  refine ha.go r (q.bind.mono fun d hd v Z1 H1 x1 r1 => ?_)
  show Q (.bl (!decide (v = .non))) H1
  rw [rd_none r1]
  exact hd _ _ _ x1 (.bl _)
end
end PQ

/-! PQ.4: tests, chains, in, built-in calls, subscripts, slices -/
namespace PQ
open PySem PySem.Spec PyProof.Rows L2
open PySem.W (alike alikeAll dataLt rcLt_alike)

def asB : D → R Bool
  | .bool b => .ok b
  | _ => .stuck
def dLtI : D → D → R D
  | .int i, .int j => .ok (.bool (decide (i < j)))
  | _, _ => .stuck
theorem cl_ltI (x y : D) : (dLtI x y).clean := by cases x <;> cases y <;> trivial
theorem cl_asB (x : D) : (asB x).clean := by cases x <;> trivial
section
variable {X : Cx} {W : WX} {a b c e : Expr} {es rest : List Expr} {pos : Pos} {F G I : EV} {T U : ET} {Fs : EA}

def tV (F : EV) : ET := fun ρ => F ρ >>= asB
theorem rd_bool {w : World} {K : PySem.W.Frag} {Z : Hp} {v : V} {b : Bool} (h : RD w K Z v (.bool b)) : v = .bl b := by cases h; rfl
theorem et_val (ha : Ev X W a F) (he : ∀ whole, isTrue a X.env whole = (do let v ← whole; standAt a.pos; holding [v] (truthy v)) := by intro _; rfl) : Et X W a (tV F) := by
  refine ⟨fun {Z0 H0 Z H σ ρ Q} r q => toAtT (pt_val pe_at he) ?_⟩
  refine ha.go r (q.bind.mono fun d hd v Z1 H1 x1 r1 => ?_)
  cases d with
  | bool b => cases r1; exact ⟨b, rfl, hd _ _ x1⟩
  | _ => exact hd.elim
def tNotB (T : ET) : ET := fun ρ => T ρ >>= fun b => .ok (!b)
theorem et_not (ha : Et X W a T) : Et X W (.UnaryOp .Not a pos) (tNotB T) := by
  refine ⟨fun {Z0 H0 Z H σ ρ Q} r q => toAtT (pt_not pt_at) ?_⟩
  exact ha.go r (q.bind.mono fun b hb Z1 H1 x1 => hb _ _ x1)
def tAndB (T U : ET) : ET := fun ρ => T ρ >>= fun b => if b = true then U ρ else .ok false
def tOrB (T U : ET) : ET := fun ρ => T ρ >>= fun b => if b = true then .ok true else U ρ
theorem ew_and1 (ha : Et X W a T) : Ew X W (.BoolOp .And [a] pos) T := ⟨fun r q => toAtW (pw_and1 pt_at) (ha.go r q)⟩
theorem ew_or1 (ha : Et X W a T) : Ew X W (.BoolOp .Or [a] pos) T := ⟨fun r q => toAtW (pw_or1 pt_at) (ha.go r q)⟩
theorem ew_and (ha : Et X W a T) (hb : Ew X W (.BoolOp .And (b :: rest) pos) U) : Ew X W (.BoolOp .And (a :: b :: rest) pos) (tAndB T U) := by
  refine ⟨fun {Z0 H0 Z H σ ρ Q} r q => toAtW (pw_and pt_at pw_at) ?_⟩
  refine ha.go r (q.bind.mono fun k hk Z1 H1 x1 => ?_)
  cases k with
  | true =>
    show PWat X _ σ H1 Q
    rw [if_pos rfl] at hk
    exact hb.go (r.step x1) ((hk.step x1).mono fun k hk Z2 H2 x2 => hk _ _ (x1.trans x2))
  | false => exact hk _ _ x1
theorem ew_or (ha : Et X W a T) (hb : Ew X W (.BoolOp .Or (b :: rest) pos) U) : Ew X W (.BoolOp .Or (a :: b :: rest) pos) (tOrB T U) := by
  refine ⟨fun {Z0 H0 Z H σ ρ Q} r q => toAtW (pw_or pt_at pw_at) ?_⟩
  refine ha.go r (q.bind.mono fun k hk Z1 H1 x1 => ?_)
  cases k with
  | false =>
    show PWat X _ σ H1 Q
    rw [if_neg Bool.false_ne_true] at hk
    exact hb.go (r.step x1) ((hk.step x1).mono fun k hk Z2 H2 x2 => hk _ _ (x1.trans x2))
  | true => exact hk _ _ x1
/-- and, or, not as values: bools -/
def eAnd (F G : EV) : EV := fun ρ => F ρ >>= asB >>= fun b => if b = true then G ρ else .ok (.bool false)
def eOr (F G : EV) : EV := fun ρ => F ρ >>= asB >>= fun b => if b = true then .ok (.bool true) else G ρ
def eNot (F : EV) : EV := fun ρ => F ρ >>= asB >>= fun b => .ok (.bool (!b))
theorem ev_one {op} (h : Ev X W a F) : Ev X W (.BoolOp op [a] pos) F := ⟨fun r q => toAt (pe_one pe_at) (h.go r q)⟩
theorem ev_and (ha : Ev X W a F) (hb : Ev X W (.BoolOp .And (b :: rest) pos) G) : Ev X W (.BoolOp .And (a :: b :: rest) pos) (eAnd F G) := by
  refine ⟨fun {Z0 H0 Z H σ ρ Q} r q => toAt (pe_and pe_at pe_at) ?_⟩
  refine ha.go r (q.bind.bind.mono fun d hd v Z1 H1 x1 r1 => ?_)
  cases d with
  | bool k =>
    cases r1
    refine ⟨k, rfl, ?_⟩
    cases k with
    | true =>
      have hd : Post X W Z H σ (G ρ) (QV X Z H Q) := hd
      exact hb.go (r.step x1) ((Post.step hd x1).mono fun d hd v Z2 H2 x2 r2 => hd _ _ _ (x1.trans x2) r2)
    | false => exact hd _ _ _ x1 (.bl _)
  | _ => exact hd.elim
theorem ev_or (ha : Ev X W a F) (hb : Ev X W (.BoolOp .Or (b :: rest) pos) G) : Ev X W (.BoolOp .Or (a :: b :: rest) pos) (eOr F G) := by
  refine ⟨fun {Z0 H0 Z H σ ρ Q} r q => toAt (pe_or pe_at pe_at) ?_⟩
  refine ha.go r (q.bind.bind.mono fun d hd v Z1 H1 x1 r1 => ?_)
  cases d with
  | bool k =>
    cases r1
    refine ⟨k, rfl, ?_⟩
    cases k with
    | false =>
      have hd : Post X W Z H σ (G ρ) (QV X Z H Q) := hd
      exact hb.go (r.step x1) ((Post.step hd x1).mono fun d hd v Z2 H2 x2 r2 => hd _ _ _ (x1.trans x2) r2)
    | true => exact hd _ _ _ x1 (.bl _)
  | _ => exact hd.elim
theorem ev_not (ha : Ev X W a F) : Ev X W (.UnaryOp .Not a pos) (eNot F) := by
  refine ⟨fun {Z0 H0 Z H σ ρ Q} r q => toAt (pe_not pe_at) ?_⟩
  refine ha.go r (q.bind.bind.mono fun d hd v Z1 H1 x1 r1 => ?_)
  cases d with
  | bool k => cases r1; exact ⟨k, rfl, hd _ _ _ x1 (.bl _)⟩
  | _ => exact hd.elim
def eIte (T : ET) (F G : EV) : EV := fun ρ => T ρ >>= fun b => if b = true then F ρ else G ρ
theorem ev_ite (hc : Et X W c T) (ha : Ev X W a F) (hb : Ev X W b G) : Ev X W (.IfExp c a b pos) (eIte T F G) := by
  refine ⟨fun {Z0 H0 Z H σ ρ Q} r q => toAt (pe_ifExp pt_at pe_at pe_at) ?_⟩
  refine hc.go r (q.bind.mono fun k hk Z1 H1 x1 => ?_)
  cases k with
  | true => exact ha.go (r.step x1) ((Post.step hk x1).mono fun d hd v Z2 H2 x2 r2 => hd _ _ _ (x1.trans x2) r2)
  | false => exact hb.go (r.step x1) ((Post.step hk x1).mono fun d hd v Z2 H2 x2 r2 => hd _ _ _ (x1.trans x2) r2)

/-- a op b op' c -/
def eCh (f g : D → D → R D) (F G I : EV) : EV := fun ρ => F ρ >>= fun x => G ρ >>= fun y => f x y >>= asB >>= fun k => if k = true then I ρ >>= fun z => g y z else .ok (.bool false)
theorem chain_go {r1 r2 : R2} {f g : D → D → R D} (o1 : OpD X r1 f) (c1 : ∀ x y, (f x y).clean) (o2 : OpD X r2 g) (c2 : ∀ x y, (g x y).clean) (ha : Ev X W a F) (hb : Ev X W b G) (hc : Ev X W c I)
    {Z0 H0 Z H : Hp} {σ : St} {ρ : Rho} {Q : VK} (r : Rep X.w X.K Z0 H0 Z H σ ρ) (q : Post X W Z H σ (eCh f g F G I ρ) (QV X Z H Q)) : tChain r1 r2 (PEat X a) (PEat X b) (PEat X c) σ H Q := by
  refine ha.go r (q.bind.mono fun d hd v Z1 H1 x1 rd1 => ?_)
  refine hb.go (r.step x1) ((hd.bind.step x1).mono fun d2 hd2 v2 Z2 H2 x2 rd2 => ?_)
  refine o1 Z2 H2 v v2 d d2 _ x2.zh (rd1.mono x2.zz) rd2 ?_
  have p := hd2.bind.bind
  have cl := c1 d d2
  cases hf : f d d2 with
  | ok z =>
    rw [hf] at p
    intro v3 Z3 H3 x3 rd3
    cases z with
    | bool k =>
      cases rd3
      refine ⟨k, rfl, ?_⟩
      have x13 := (x1.trans x2).trans x3
      cases k with
      | false =>
        rw [if_neg Bool.false_ne_true]
        exact p _ _ _ x13 (.bl _)
      | true =>
        rw [if_pos rfl]
        have p : Post X W Z H σ (I ρ >>= fun z => g d2 z) (QV X Z H Q) := p
        refine hc.go (r.step x13) ((p.bind.step x13).mono fun d4 hd4 v4 Z4 H4 x4 rd4 => ?_)
        refine o2 Z4 H4 v2 v4 d2 d4 Q x4.zh (rd2.mono (x3.trans x4).zz) rd4 ?_
        have p4 := hd4.to0 (c2 d2 d4)
        cases hg : g d2 d4 with
        | ok z => rw [hg] at p4; exact fun v5 Z5 H5 x5 r5 => p4 v5 Z5 H5 ((x13.trans x4).trans x5) r5
        | exc x => rw [hg] at p4; exact p4.elim
        | stuck => rw [hg] at p4; exact p4.elim
    | _ => exact p.elim
  | exc x => rw [hf] at cl; exact cl.elim
  | stuck => rw [hf] at p; exact p.elim
theorem ev_ch {op op' : CmpOp} {r1 r2 : R2} {f g : D → D → R D} (h1 : OpR X (compareOp op) r1) (h2 : OpR X (compareOp op') r2) (o1 : OpD X r1 f) (c1 : ∀ x y, (f x y).clean) (o2 : OpD X r2 g) (c2 : ∀ x y, (g x y).clean)
    (ha : Ev X W a F) (hb : Ev X W b G) (hc : Ev X W c I) (hm : lastMarks [op, op'] [b, c] = false := by with_unfolding_all rfl) : Ev X W (.Compare a [op, op'] [b, c] pos) (eCh f g F G I) :=
  ⟨fun r q => toAt (pe_chain h1 h2 pe_at pe_at pe_at hm) (chain_go o1 c1 o2 c2 ha hb hc r q)⟩
theorem et_ch {op op' : CmpOp} {r1 r2 : R2} {f g : D → D → R D} (h1 : OpR X (compareOp op) r1) (h2 : OpR X (compareOp op') r2) (o1 : OpD X r1 f) (c1 : ∀ x y, (f x y).clean) (o2 : OpD X r2 g) (c2 : ∀ x y, (g x y).clean)
    (ha : Ev X W a F) (hb : Ev X W b G) (hc : Ev X W c I) (hm : lastMarks [op, op'] [b, c] = false := by with_unfolding_all rfl) : Et X W (.Compare a [op, op'] [b, c] pos) (tV (eCh f g F G I)) := by
  refine ⟨fun {Z0 H0 Z H σ ρ Q} r q => toAtT (pt_chain h1 h2 pe_at pe_at pe_at hm) ?_⟩
  refine chain_go o1 c1 o2 c2 ha hb hc r (q.bind.mono fun d hd v Z1 H1 x1 r1 => ?_)
  cases d with
  | bool k => cases r1; exact ⟨k, rfl, hd _ _ x1⟩
  | _ => exact hd.elim
theorem od_ltI : OpD X (rI0 fun i j => .bl (decide (i < j))) dLtI := by
  intro Z H x y dx dy Q s rx ry h
  cases rx <;> cases ry <;> try exact h.elim
  exact ⟨_, _, rfl, rfl, h _ _ _ (Ext.refl s) (.bl _)⟩
theorem ev_lele (ha : Ev X W a F) (hb : Ev X W b G) (hc : Ev X W c I) (hm : lastMarks [.LtE, .LtE] [b, c] = false := by with_unfolding_all rfl) : Ev X W (.Compare a [.LtE, .LtE] [b, c] pos) (eCh dLe dLe F G I) := ev_ch op_le op_le od_le cl_le od_le cl_le ha hb hc hm
theorem ev_lelt (ha : Ev X W a F) (hb : Ev X W b G) (hc : Ev X W c I) (hm : lastMarks [.LtE, .Lt] [b, c] = false := by with_unfolding_all rfl) : Ev X W (.Compare a [.LtE, .Lt] [b, c] pos) (eCh dLe dLtI F G I) := ev_ch op_le op_lt od_le cl_le od_ltI cl_ltI ha hb hc hm
theorem ev_ltlt (ha : Ev X W a F) (hb : Ev X W b G) (hc : Ev X W c I) (hm : lastMarks [.Lt, .Lt] [b, c] = false := by with_unfolding_all rfl) : Ev X W (.Compare a [.Lt, .Lt] [b, c] pos) (eCh dLtI dLtI F G I) := ev_ch op_lt op_lt od_ltI cl_ltI od_ltI cl_ltI ha hb hc hm
theorem ev_ltle (ha : Ev X W a F) (hb : Ev X W b G) (hc : Ev X W c I) (hm : lastMarks [.Lt, .LtE] [b, c] = false := by with_unfolding_all rfl) : Ev X W (.Compare a [.Lt, .LtE] [b, c] pos) (eCh dLtI dLe F G I) := ev_ch op_lt op_le od_ltI cl_ltI od_le cl_le ha hb hc hm
theorem et_lele (ha : Ev X W a F) (hb : Ev X W b G) (hc : Ev X W c I) (hm : lastMarks [.LtE, .LtE] [b, c] = false := by with_unfolding_all rfl) : Et X W (.Compare a [.LtE, .LtE] [b, c] pos) (tV (eCh dLe dLe F G I)) := et_ch op_le op_le od_le cl_le od_le cl_le ha hb hc hm
theorem et_lelt (ha : Ev X W a F) (hb : Ev X W b G) (hc : Ev X W c I) (hm : lastMarks [.LtE, .Lt] [b, c] = false := by with_unfolding_all rfl) : Et X W (.Compare a [.LtE, .Lt] [b, c] pos) (tV (eCh dLe dLtI F G I)) := et_ch op_le op_lt od_le cl_le od_ltI cl_ltI ha hb hc hm
theorem et_ltlt (ha : Ev X W a F) (hb : Ev X W b G) (hc : Ev X W c I) (hm : lastMarks [.Lt, .Lt] [b, c] = false := by with_unfolding_all rfl) : Et X W (.Compare a [.Lt, .Lt] [b, c] pos) (tV (eCh dLtI dLtI F G I)) := et_ch op_lt op_lt od_ltI cl_ltI od_ltI cl_ltI ha hb hc hm
theorem et_ltle (ha : Ev X W a F) (hb : Ev X W b G) (hc : Ev X W c I) (hm : lastMarks [.Lt, .LtE] [b, c] = false := by with_unfolding_all rfl) : Et X W (.Compare a [.Lt, .LtE] [b, c] pos) (tV (eCh dLtI dLe F G I)) := et_ch op_lt op_le od_ltI cl_ltI od_le cl_le ha hb hc hm

/-! ### in, not in -/
def inOk (xs : List D) (d : D) : Bool := PyData.plainAll xs && d.plain && decide (min (PyData.depthAll xs) d.depth ≤ 60)
theorem inOk_plain {xs : List D} {d : D} (h : inOk xs d = true) : PyData.plainAll xs = true ∧ d.plain = true := by
  simp only [inOk, Bool.and_eq_true] at h
  exact h.1
def dIn : D → D → R D
  | .str x, .str z => guardR (x.cps.size == 1) (.bool (decide (x.cps.getD 0 0 ∈ z.cps.toList)))
  | d, .list xs => guardR (inOk xs d) (.bool (xs.any fun y => PyData.eqv y d))
  | d, .tuple xs => guardR (inOk xs d) (.bool (xs.any fun y => PyData.eqv y d))
  | _, _ => .stuck
def dNotIn (x y : D) : R D := dIn x y >>= fun d => asB d >>= fun b => .ok (.bool (!b))
theorem cl_in (x y : D) : (dIn x y).clean := by unfold dIn; split <;> first | trivial | exact clean_guard _ _
theorem cl_notIn (x y : D) : (dNotIn x y).clean := by
  have := cl_in x y
  unfold dNotIn
  cases h : dIn x y with
  | ok d => cases d <;> trivial
  | exc x => rw [h] at this; exact this.elim
  | stuck => trivial
def rInP (K : PySem.W.Frag) (neg : Bool) : R2 := fun x y H Q => (∃ (c : Nat) (z : Str), x = .str ⟨#[c]⟩ ∧ y = .str z ∧ Q (.bl (if neg then !decide (c ∈ z.cps.toList) else decide (c ∈ z.cps.toList))) H) ∨
  (∃ d xs, Dp K H x d ∧ (Dp K H y (.list xs) ∨ Dp K H y (.tuple xs)) ∧ inOk xs d = true ∧ Q (.bl (if neg then !xs.any fun y => PyData.eqv y d else xs.any fun y => PyData.eqv y d)) H)
theorem op_inP (hu : HasRoom X) : OpR X (compareOp .In) (rInP X.K false) := by
  intro pins s σ H x y v u Q I rx ry h
  rcases h with ⟨c, z, rfl, rfl, q⟩ | ⟨d, xs, h1, h2, h3, q⟩
  · exact op_in_sign pins s σ H _ _ v u Q I rx ry ⟨c, z, rfl, rfl, q⟩
  · obtain ⟨as, r1⟩ := Dp.reads I d x v h1 rx
    simp only [inOk, Bool.and_eq_true, decide_eq_true_eq] at h3
    have hu' : X.A.units + 100 < cLine := hu
    rcases h2 with h2 | h2
    · obtain ⟨bs, r2⟩ := Dp.reads I _ y u h2 ry
      exact SeqAt.in_list_data r2 r1 h3.1.1 h3.1.2 (by omega) ⟨.bl _, H, I, rfl, q⟩
    · obtain ⟨bs, r2⟩ := Dp.reads I _ y u h2 ry
      exact SeqAt.in_tuple_data r2 r1 h3.1.1 h3.1.2 (by omega) ⟨.bl _, H, I, rfl, q⟩
theorem op_notInP (hu : HasRoom X) : OpR X (compareOp .NotIn) (rInP X.K true) := by
  intro pins s σ H x y v u Q I rx ry h
  rcases h with ⟨c, z, rfl, rfl, q⟩ | ⟨d, xs, h1, h2, h3, q⟩
  · exact op_notIn_sign pins s σ H _ _ v u Q I rx ry ⟨c, z, rfl, rfl, q⟩
  · obtain ⟨as, r1⟩ := Dp.reads I d x v h1 rx
    simp only [inOk, Bool.and_eq_true, decide_eq_true_eq] at h3
    have hu' : X.A.units + 100 < cLine := hu
    rcases h2 with h2 | h2
    · obtain ⟨bs, r2⟩ := Dp.reads I _ y u h2 ry
      exact SeqAt.notIn_list_data r2 r1 h3.1.1 h3.1.2 (by omega) ⟨.bl _, H, I, rfl, q⟩
    · obtain ⟨bs, r2⟩ := Dp.reads I _ y u h2 ry
      exact SeqAt.notIn_tuple_data r2 r1 h3.1.1 h3.1.2 (by omega) ⟨.bl _, H, I, rfl, q⟩
theorem one_sign {x : Str} (h : (x.cps.size == 1) = true) : x = ⟨#[x.cps.getD 0 0]⟩ := by
  obtain ⟨⟨l⟩⟩ := x
  match l, h with
  | [c], _ => rfl
theorem in_go (neg : Bool) {Z H : Hp} {x y : V} {dx dy : D} {Q : VK} (s : Same Z H) (rx : RD X.w X.K Z x dx) (ry : RD X.w X.K Z y dy)
    (h : Post0 (dIn dx dy) fun d => ∃ b, d = .bool b ∧ QV X Z H Q (.bool (if neg then !b else b))) : rInP X.K neg x y H Q := by
  unfold dIn at h
  split at h
  · obtain ⟨hc, b, e, h⟩ := h.guard
    cases e
    cases rx; cases ry
    exact .inl ⟨_, _, congrArg V.str (one_sign hc), rfl, h _ _ _ (Ext.refl s) (.bl _)⟩
  · obtain ⟨hc, b, e, h⟩ := h.guard
    cases e
    have p := inOk_plain hc
    refine .inr ⟨_, _, Dp.mono2 s rx p.2, .inl (Dp.mono2 s ry ?_), hc, h _ _ _ (Ext.refl s) (.bl _)⟩
    rw [PyData.plain]; exact p.1
  · obtain ⟨hc, b, e, h⟩ := h.guard
    cases e
    have p := inOk_plain hc
    refine .inr ⟨_, _, Dp.mono2 s rx p.2, .inr (Dp.mono2 s ry ?_), hc, h _ _ _ (Ext.refl s) (.bl _)⟩
    rw [PyData.plain]; exact p.1
  · exact h.elim
theorem od_in : OpD X (rInP X.K false) dIn := by
  intro Z H x y dx dy Q s rx ry h
  refine in_go false s rx ry ?_
  unfold dIn at h ⊢
  split at h <;> (try exact h.elim) <;> (obtain ⟨hc, h⟩ := h.guard; rw [guardR_of hc]; exact ⟨_, rfl, h⟩)
theorem od_notIn : OpD X (rInP X.K true) dNotIn := by
  intro Z H x y dx dy Q s rx ry h
  refine in_go true s rx ry ?_
  unfold dNotIn at h
  have cl := cl_in dx dy
  cases e : dIn dx dy with
  | ok d =>
    rw [e] at h
    cases d with
    | bool b => exact ⟨b, rfl, h⟩
    | _ => exact h.elim
  | exc x => rw [e] at cl; exact cl.elim
  | stuck => rw [e] at h; exact h.elim
theorem ev_in (hu : HasRoom X) (ha : Ev X W a F) (hb : Ev X W b G) (hm : behindInMarks .In b = false := by rfl) : Ev X W (.Compare a [.In] [b] pos) (e2 dIn F G) :=
  ev_2 (fun p q => pe_cmpR (op_inP hu) p q hm) od_in cl_in ha hb
theorem ev_notIn (hu : HasRoom X) (ha : Ev X W a F) (hb : Ev X W b G) (hm : behindInMarks .NotIn b = false := by rfl) : Ev X W (.Compare a [.NotIn] [b] pos) (e2 dNotIn F G) :=
  ev_2 (fun p q => pe_cmpR (op_notInP hu) p q hm) od_notIn cl_notIn ha hb
end
end PQ

/-! PQ.5: subscripts, slices, built-in calls -/
namespace PQ
open PySem PySem.Spec PyProof.Rows L2
open PySem.W (alike alikeAll dataLt rcLt_alike)

/-! ### a[i] -/
def dIx : D → D → R D
  | .list ds, .int i => match atI ds i with
    | some d => .ok d
    | none => .stuck
  | .tuple ds, .int i => match atI ds i with
    | some d => .ok d
    | none => .stuck
  | .str z, .int i => match atI z.cps.toList i with
    | some c => guardR (fits z.length) (.str ⟨#[c]⟩)
    | none => .stuck
  | _, _ => .stuck
theorem cl_ix (x y : D) : (dIx x y).clean := by unfold dIx; split <;> (try split) <;> first | trivial | exact clean_guard _ _
section
variable {X : Cx} {W : WX} {a b c e : Expr} {es rest : List Expr} {pos : Pos} {F G I : EV} {T U : ET} {Fs : EA}
theorem RDs.at {w : World} {K : PySem.W.Frag} {Z : Hp} {vs : List V} {ds : List D} {i : Int} {d : D} (r : RDs w K Z vs ds) (h : atI ds i = some d) : ∃ v, atI vs i = some v ∧ RD w K Z v d := by
  unfold atI at h ⊢
  rw [r.length]
  cases e : ixN ds.length i with
  | none => rw [e] at h; cases h
  | some j =>
    rw [e] at h
    obtain ⟨v, h1, h2⟩ := r.get (i := j) h
    exact ⟨v, h1, h2⟩
theorem od_ix : OpD X (rIx X.K) dIx := by
  intro Z H x y dx dy Q s rx ry h
  unfold dIx at h
  split at h
  · cases ry
    cases rx with
    | lst h1 r1 =>
      split at h
      · rename_i d hd
        obtain ⟨v, hv, rv⟩ := r1.at hd
        exact .inl ⟨_, _, _, v, rfl, rfl, .inl (.inl (s _ _ h1)), hv, h _ _ _ (Ext.refl s) rv⟩
      · exact h.elim
  · cases ry
    cases rx with
    | tup h1 r1 =>
      split at h
      · rename_i d hd
        obtain ⟨v, hv, rv⟩ := r1.at hd
        exact .inr (.inl ⟨_, _, _, v, rfl, rfl, SqT.mono s h1, hv, h _ _ _ (Ext.refl s) rv⟩)
      · exact h.elim
  · cases ry
    cases rx
    split at h
    · rename_i c hc
      obtain ⟨hf, h⟩ := h.guard
      exact .inr (.inr ⟨_, _, c, rfl, rfl, fits_le hf, hc, h _ _ _ (Ext.refl s) (.str _)⟩)
    · exact h.elim
  · exact h.elim
theorem ev_ix (ha : Ev X W a F) (hb : Ev X W b G) (hs : PlainIx b := by exact fun _ _ => rfl) : Ev X W (.Subscript a b pos) (e2 dIx F G) := ev_2 (fun p q => pe_ix ix_seq p q hs) od_ix cl_ix ha hb

/-! ### a[i:j] -/
def cutL {α : Type} (xs : List α) (lo hi : Option Int) : List α := (xs.drop (HT.sIx xs.length 0 lo)).take (HT.sIx xs.length xs.length hi - HT.sIx xs.length 0 lo)
abbrev EP' := Rho → R (Option Int)
structure Ep (X : Cx) (W : WX) (e : Option Expr) (F : EP') : Prop where
  go : ∀ {Z0 H0 Z H : Hp} {σ : St} {ρ : Rho} {Q : Option Int → Hp → Prop}, Rep X.w X.K Z0 H0 Z H σ ρ → Post X W Z H σ (F ρ) (fun o => ∀ Z' H', Ext Z H Z' H' → Q o H') →
    ∀ (pins : List (Addr × Obj)) (s : Shared), Inv X pins σ H s → wpAny (model X.prog X.w) X.A (evalPart e X.env) (fun u s' => ∃ o H', Inv X pins σ H' s' ∧ IsPart u o ∧ Q o H') X.xe s
def pNone : EP' := fun _ => .ok none
def pSome (F : EV) : EP' := fun ρ => F ρ >>= fun d => match d with
  | .int i => .ok (some i)
  | _ => .stuck
theorem ep_none : Ep X W none pNone := ⟨fun r q pins s I => po_none.run pins s _ _ _ I (q _ _ (Ext.refl r.zh))⟩
theorem ep_some (ha : Ev X W a F) : Ep X W (some a) (pSome F) := by
  refine ⟨fun {Z0 H0 Z H σ ρ Q} r q pins s I => (po_some pe_at).run pins s _ _ _ I ?_⟩
  refine ha.go r (q.bind.mono fun d hd v Z1 H1 x1 r1 => ?_)
  cases d with
  | int i => cases r1; exact ⟨i, rfl, hd _ _ x1⟩
  | _ => exact hd.elim
def dCut (lo hi : Option Int) : D → R D
  | .list ds => .ok (.list (cutL ds lo hi))
  | .tuple ds => .ok (.tuple (cutL ds lo hi))
  | .str z => guardR (fits z.length) (.str (cutS z lo hi))
  | _ => .stuck
def eCut (F : EV) (P P' : EP') : EV := fun ρ => F ρ >>= fun x => P ρ >>= fun lo => P' ρ >>= fun hi => dCut lo hi x
theorem RDs.cut {w : World} {K : PySem.W.Frag} {Z : Hp} {vs : List V} {ds : List D} (r : RDs w K Z vs ds) (lo hi : Option Int) : RDs w K Z (cutV vs lo hi) (cutL ds lo hi) := by
  unfold cutV cutL
  rw [r.length]
  exact (r.drop _).take _
abbrev rSlAll (K : PySem.W.Frag) : V → Option Int → Option Int → Hp → VK → Prop := fun x lo hi H Q => rSlL K x lo hi H Q ∨ (fun x lo hi H Q => rSlA K x lo hi H Q ∨ rSlS x lo hi H Q) x lo hi H Q
theorem sl_all : SlR X (rSlAll X.K) := sl_list.or (sl_tupA.or sl_str)
theorem po_at {e : Option Expr} : L2.PO X e (fun σ H Q => ∀ (pins : List (Addr × Obj)) (s : Shared), Inv X pins σ H s → wpAny (model X.prog X.w) X.A (evalPart e X.env) (fun u s' => ∃ o H', Inv X pins σ H' s' ∧ IsPart u o ∧ Q o H') X.xe s) :=
  ⟨fun pins s σ H Q I h => h pins s I⟩
theorem cut_whole {α : Type} {xs : List α} {lo hi : Option Int} (h : HT.sIx xs.length 0 lo = 0 ∧ HT.sIx xs.length xs.length hi = xs.length) : cutL xs lo hi = xs := by
  unfold cutL
  rw [h.1, h.2, List.drop_zero, Nat.sub_zero, List.take_length]
theorem dcut_go {Z H : Hp} {x : V} {d : D} {lo hi : Option Int} {Q : VK} (s : Same Z H) (rx : RD X.w X.K Z x d) (h : Post0 (dCut lo hi d) (QV X Z H Q)) : rSlAll X.K x lo hi H Q := by
  cases rx with
  | lst h1 r1 =>
    rename_i p xs ds
    refine .inl ⟨p, xs, rfl, .inl (.inl (s _ _ h1)), fun q hq => ?_⟩
    have x := Ext.new (o := .lst (cutV xs lo hi)) s hq
    exact h _ _ _ x (.lst upd_same ((r1.cut _ _).mono x.zz))
  | tup h1 r1 =>
    rename_i p xs ds
    refine .inr (.inl ⟨p, xs, rfl, SqT.mono s h1, fun e => ?_, fun _ q hq => ?_⟩)
    · refine h _ _ _ (Ext.refl s) (.tup h1 ?_)
      rw [cut_whole (by rw [← r1.length]; exact e)]
      exact r1
    · have x := Ext.new (o := .tup (cutV xs lo hi)) s hq
      exact h _ _ _ x (.tup (.inl (.inl upd_same)) ((r1.cut _ _).mono x.zz))
  | str z =>
    obtain ⟨hf, h⟩ := h.guard
    exact .inr (.inr ⟨z, rfl, fits_le hf, h _ _ _ (Ext.refl s) (.str _)⟩)
  | _ => exact h.elim
theorem cl_cut (lo hi : Option Int) (x : D) : (dCut lo hi x).clean := by cases x <;> first | trivial | exact clean_guard _ _
theorem ev_cut {lo hi : Option Expr} {P P' : EP'} {p2 : Pos} (ha : Ev X W a F) (hl : Ep X W lo P) (hh : Ep X W hi P') : Ev X W (.Subscript a (.Slice lo hi none p2) pos) (eCut F P P') := by
  refine ⟨fun {Z0 H0 Z H σ ρ Q} r q => toAt (pe_slice sl_all pe_at po_at po_at) ?_⟩
  refine ha.go r (q.bind.mono fun d hd v Z1 H1 x1 r1 => ?_)
  refine hl.go (r.step x1) ((hd.bind.step x1).mono fun l hl Z2 H2 x2 => ?_)
  refine hh.go ((r.step x1).step x2) (((hl.bind.step x1).step x2).mono fun u hu Z3 H3 x3 => ?_)
  refine dcut_go x3.zh (r1.mono (x2.trans x3).zz) ?_
  have p := hu.to0 (cl_cut l u d)
  cases e : dCut l u d with
  | ok z => rw [e] at p; exact fun v4 Z4 H4 x4 r4 => p _ _ _ (((x1.trans x2).trans x3).trans x4) r4
  | exc x => rw [e] at p; exact p.elim
  | stuck => rw [e] at p; exact p.elim
end
end PQ

/-! PQ.6: built-in calls -/
namespace PQ
open PySem PySem.Spec PyProof.Rows L2
open PySem.W (alike alikeAll dataLt rcLt_alike)

section
variable {X : Cx} {W : WX} {a b c e : Expr} {es rest : List Expr} {pos p : Pos} {F G I : EV} {T U : ET} {Fs : EA}

/-! ### len -/
def dLen : List D → R D
  | [.list ds] => .ok (.int ds.length)
  | [.tuple ds] => .ok (.int ds.length)
  | [.str z] => guardR (fits z.length) (.int z.length)
  | _ => .stuck
theorem cl_len (x : List D) : (dLen x).clean := by unfold dLen; split <;> first | trivial | exact clean_guard _ _
abbrev rLenAll (K : PySem.W.Frag) : List V → Hp → VK → Prop := fun xs H Q => (∃ p ys, xs = [.ref p] ∧ (SqL K H p ys ∨ SqT K H p ys) ∧ Q (.int ys.length) H) ∨ (∃ z, xs = [.str z] ∧ z.length ≤ sizeLine ∧ Q (.int z.length) H)
theorem rds1 {w : World} {K : PySem.W.Frag} {Z : Hp} {vs : List V} {d : D} (h : RDs w K Z vs [d]) : ∃ v, vs = [v] ∧ RD w K Z v d := by
  cases h with
  | cons h t => cases t; exact ⟨_, rfl, h⟩
theorem rds2 {w : World} {K : PySem.W.Frag} {Z : Hp} {vs : List V} {d e : D} (h : RDs w K Z vs [d, e]) : ∃ v u, vs = [v, u] ∧ RD w K Z v d ∧ RD w K Z u e := by
  cases h with
  | cons h t =>
    cases t with
    | cons h2 t => cases t; exact ⟨_, _, rfl, h, h2⟩
theorem cd_len : CaD X (rLenAll X.K) dLen := by
  intro Z H xs ds Q s r h
  unfold dLen at h
  split at h
  · obtain ⟨v, rfl, r0⟩ := rds1 r
    cases r0 with
    | lst h1 r1 =>
      refine .inl ⟨_, _, rfl, .inl (.inl (.inl (s _ _ h1))), ?_⟩
      rw [r1.length]
      exact h _ _ _ (Ext.refl s) (.int _)
  · obtain ⟨v, rfl, r0⟩ := rds1 r
    cases r0 with
    | tup h1 r1 =>
      refine .inl ⟨_, _, rfl, .inr (SqT.mono s h1), ?_⟩
      rw [r1.length]
      exact h _ _ _ (Ext.refl s) (.int _)
  · obtain ⟨v, rfl, r0⟩ := rds1 r
    cases r0
    obtain ⟨hf, h⟩ := h.guard
    exact .inr ⟨_, rfl, fits_le hf, h _ _ _ (Ext.refl s) (.int _)⟩
  · exact h.elim
theorem ev_len (hm : X.mg "len" = none) (ha : Ea X W [a] Fs) (hg : Gl X "len" := by rfl) : Ev X W (.Call (.Name "len" p) [a] [] pos) (eA dLen Fs) :=
  ev_A (fun h => pe_callB (call_len_seq.or call_len_str) hg hm PySem.boot_len h (he := ha.se _ _ rfl) (hpl := ha.plt _ _ rfl _)) cd_len cl_len ha

/-! ### int(x), abs(x), max(x, y), min(x, y) -/
def dInt : List D → R D
  | [.int i] => .ok (.int i)
  | [.bool b] => .ok (.int (if b then 1 else 0))
  | [.str z] => match PySem.intText? z with
    | some n => guardR (decide (z.length ≤ 640)) (.int n)
    | none => .stuck
  | _ => .stuck
theorem cl_int (x : List D) : (dInt x).clean := by unfold dInt; split <;> (try split) <;> first | trivial | exact clean_guard _ _
abbrev rIntAll : List V → Hp → VK → Prop := fun xs H Q => ((∃ i, xs = [.int i] ∧ Q (.int i) H) ∨ ∃ k, xs = [.bl k] ∧ Q (.int (if k then 1 else 0)) H) ∨ (∃ a n, xs = [.str a] ∧ PySem.intText? a = some n ∧ a.length ≤ 640 ∧ Q (.int n) H)
theorem cd_int : CaD X rIntAll dInt := by
  intro Z H xs ds Q s r h
  unfold dInt at h
  split at h
  · obtain ⟨v, rfl, r0⟩ := rds1 r
    cases r0
    exact .inl (.inl ⟨_, rfl, h _ _ _ (Ext.refl s) (.int _)⟩)
  · obtain ⟨v, rfl, r0⟩ := rds1 r
    cases r0
    exact .inl (.inr ⟨_, rfl, h _ _ _ (Ext.refl s) (.int _)⟩)
  · obtain ⟨v, rfl, r0⟩ := rds1 r
    cases r0
    split at h
    · rename_i n hn
      obtain ⟨hf, h⟩ := h.guard
      exact .inr ⟨_, n, rfl, hn, of_decide_eq_true hf, h _ _ _ (Ext.refl s) (.int _)⟩
    · exact h.elim
  · exact h.elim
theorem ev_intc (hm : X.mg "int" = none) (ha : Ea X W [a] Fs) (hg : Gl X "int" := by rfl) : Ev X W (.Call (.Name "int" p) [a] [] pos) (eA dInt Fs) :=
  ev_A (fun h => pe_callTy (call_int1.or call_int_str) hg hm (by decide +kernel) h (he := ha.se _ _ rfl) (hpl := ha.plt _ _ rfl _)) cd_int cl_int ha
def dAbs : List D → R D
  | [.int i] => .ok (.int (if i < 0 then -i else i))
  | _ => .stuck
theorem cl_abs (x : List D) : (dAbs x).clean := by unfold dAbs; split <;> trivial
theorem cd_abs : CaD X (fun xs H Q => ∃ i, xs = [.int i] ∧ Q (.int (if i < 0 then -i else i)) H) dAbs := by
  intro Z H xs ds Q s r h
  unfold dAbs at h
  split at h
  · obtain ⟨v, rfl, r0⟩ := rds1 r
    cases r0
    exact ⟨_, rfl, h _ _ _ (Ext.refl s) (.int _)⟩
  · exact h.elim
theorem ev_abs (hm : X.mg "abs" = none) (ha : Ea X W [a] Fs) (hg : Gl X "abs" := by rfl) : Ev X W (.Call (.Name "abs" p) [a] [] pos) (eA dAbs Fs) :=
  ev_A (fun h => pe_callB call_abs hg hm (by decide +kernel) h (he := ha.se _ _ rfl) (hpl := ha.plt _ _ rfl _)) cd_abs cl_abs ha
def dMax2 : List D → R D
  | [.int i, .int j] => .ok (.int (if j > i then j else i))
  | _ => .stuck
def dMin2 : List D → R D
  | [.int i, .int j] => .ok (.int (if j < i then j else i))
  | _ => .stuck
theorem cl_max2 (x : List D) : (dMax2 x).clean := by unfold dMax2; split <;> trivial
theorem cl_min2 (x : List D) : (dMin2 x).clean := by unfold dMin2; split <;> trivial
theorem cd_max2 : CaD X (fun xs H Q => ∃ i j, xs = [.int i, .int j] ∧ Q (.int (if j > i then j else i)) H) dMax2 := by
  intro Z H xs ds Q s r h
  unfold dMax2 at h
  split at h
  · obtain ⟨v, u, rfl, r1, r2⟩ := rds2 r
    cases r1; cases r2
    exact ⟨_, _, rfl, h _ _ _ (Ext.refl s) (.int _)⟩
  · exact h.elim
theorem cd_min2 : CaD X (fun xs H Q => ∃ i j, xs = [.int i, .int j] ∧ Q (.int (if j < i then j else i)) H) dMin2 := by
  intro Z H xs ds Q s r h
  unfold dMin2 at h
  split at h
  · obtain ⟨v, u, rfl, r1, r2⟩ := rds2 r
    cases r1; cases r2
    exact ⟨_, _, rfl, h _ _ _ (Ext.refl s) (.int _)⟩
  · exact h.elim
theorem ev_max2 (hc : X.calm = true) (hm : X.mg "max" = none) (ha : Ea X W [a, b] Fs) (hg : Gl X "max" := by rfl) : Ev X W (.Call (.Name "max" p) [a, b] [] pos) (eA dMax2 Fs) :=
  ev_A (fun h => pe_callB (call_max2 hc) hg hm (by decide +kernel) h (he := ha.se _ _ rfl) (hpl := ha.plt _ _ rfl _)) cd_max2 cl_max2 ha
theorem ev_min2 (hc : X.calm = true) (hm : X.mg "min" = none) (ha : Ea X W [a, b] Fs) (hg : Gl X "min" := by rfl) : Ev X W (.Call (.Name "min" p) [a, b] [] pos) (eA dMin2 Fs) :=
  ev_A (fun h => pe_callB (call_min2 hc) hg hm (by decide +kernel) h (he := ha.se _ _ rfl) (hpl := ha.plt _ _ rfl _)) cd_min2 cl_min2 ha

/-! ### str(n) -/
def dStr : List D → R D
  | [.int i] => guardR (decide (i.natAbs.log2 < 1920)) (.str (toString i : String))
  | _ => .stuck
theorem cl_str (x : List D) : (dStr x).clean := by unfold dStr; split <;> first | trivial | exact clean_guard _ _
theorem cd_str : CaD X (fun xs H Q => ∃ i, xs = [.int i] ∧ i.natAbs.log2 < 1920 ∧ Q (.str (toString i : String)) H) dStr := by
  intro Z H xs ds Q s r h
  unfold dStr at h
  split at h
  · obtain ⟨v, rfl, r0⟩ := rds1 r
    cases r0
    obtain ⟨hf, h⟩ := h.guard
    exact ⟨_, rfl, of_decide_eq_true hf, h _ _ _ (Ext.refl s) (.str _)⟩
  · exact h.elim
theorem ev_strc (hm : X.mg "str" = none) (ha : Ea X W [a] Fs) (hg : Gl X "str" := by rfl) : Ev X W (.Call (.Name "str" p) [a] [] pos) (eA dStr Fs) :=
  ev_A (fun h => pe_callTy call_str_int hg hm (by decide +kernel) h (he := ha.se _ _ rfl) (hpl := ha.plt _ _ rfl _)) cd_str cl_str ha

/-! ### isinstance(x, T) -/
def tyName : D → String
  | .none => "NoneType"
  | .bool _ => "bool"
  | .int _ => "int"
  | .str _ => "str"
  | .list _ => "list"
  | .tuple _ => "tuple"
  | .dict _ => "dict"
/-- isinstance by the types' names, for T one of int, str, tuple, list, bool, dict -/
def isaB (T : String) (d : D) : Bool := tyName d == T || (T == "int" && tyName d == "bool")
def dIsi (T : String) (d : D) : R D := .ok (.bool (isaB T d))
theorem rd_ty {w : World} {K : PySem.W.Frag} {Z H : Hp} {v : V} {d : D} (s : Same Z H) (h : RD w K Z v d) (nd : tyName d ≠ "dict") : TyX K H v (.type (tyName d)) := by
  cases h with
  | non => exact .base .non
  | bl b => exact .base (.bl b)
  | int i => exact .base (.int i)
  | str x => exact .base (.str x)
  | lst h r => exact .base (.lst (s _ _ h))
  | tup h r =>
    rcases h with (h | ⟨o, h⟩) | ⟨o, its, n, h1, h2, _⟩
    · exact .base (.tup (s _ _ h))
    · exact .fTuple (s _ _ h)
    · exact .kTuple h1 h2
  | dct _ _ _ _ _ _ _ => exact absurd rfl nd
def kitTab (T : String) : Bool := ["NoneType", "bool", "int", "str", "list", "tuple"].all fun n => kitB n T == some (n == T || (T == "int" && n == "bool"))
theorem kit_all {T : String} (h : kitTab T = true) {d : D} (nd : tyName d ≠ "dict") : kitB (tyName d) T = some (isaB T d) := by
  unfold kitTab at h
  rw [List.all_eq_true] at h
  have := h (tyName d) (by cases d <;> simp_all [tyName])
  rw [beq_iff_eq] at this
  exact this
def dIsi' (T : String) (d : D) : R D := if tyName d = "dict" then .stuck else dIsi T d
theorem cl_isi (T : String) (x : D) : (dIsi' T x).clean := by unfold dIsi'; split <;> trivial
theorem ev_isi {T : String} {p2 : Pos} {x : Str} (hx : x = Str.ofString T) (hm : X.mg "isinstance" = none) (hmT : X.mg x = none) (hk : kitTab T = true) (hbT : bootBuiltins x = some (.type T)) (ha : Ev X W a F) (hg : Gl X "isinstance" := by rfl) (hgT : Gl X x := by rfl)
    (hn : x ≠ "__name__" := by decide) (hd : (x == ("__debug__" : Str)) = false := by decide)
    (he : starEach [a, .Name x p2] X.env = (false, eval a X.env) :: starEach [.Name x p2] X.env := by rfl) (hpl : (backTo pos (starEach [.Name x p2] X.env)).any (·.1) = false := by rfl)
    (he2 : starEach [.Name x p2] X.env = (false, eval (.Name x p2) X.env) :: starEach [] X.env := by rfl) :
    Ev X W (.Call (.Name "isinstance" p) [a, .Name x p2] [] pos) (e1 (dIsi' T) F) := by
  have h2 : PE X (.Name x p2) (tC (.ty T)) := pe_bltn hgT hmT hbT rfl hn hd
  refine ⟨fun {Z0 H0 Z H σ ρ Q} r q => toAt (pe_callB call_isi hg hm (by decide +kernel) (pa_cons pe_at (pa_cons h2 pa_nil he2) he) (hpl := hpl) (he := he)) ?_⟩
  refine ha.go r (q.bind.mono fun d hd v Z1 H1 x1 r1 => ?_)
  unfold dIsi' at hd
  split at hd
  · exact hd.elim
  · rename_i nd
    exact ⟨v, .ty T, .type (tyName d), .type T, isaB T d, rfl, .ty T, rd_ty x1.zh r1 nd, kit_ty (kit_all hk nd), hd _ _ _ x1 (.bl _)⟩

/-! ### all, any of a list of bools -/
def bools : List D → R (List Bool)
  | [] => .ok []
  | .bool b :: r => bools r >>= fun bs => .ok (b :: bs)
  | _ :: _ => .stuck
def dAll : List D → R D
  | [.list ds] => bools ds >>= fun bs => .ok (.bool (bs.all id))
  | _ => .stuck
def dAny : List D → R D
  | [.list ds] => bools ds >>= fun bs => .ok (.bool (bs.any id))
  | _ => .stuck
theorem bools_map {bs : List Bool} : bools (bs.map .bool) = .ok bs := by
  induction bs with
  | nil => rfl
  | cons b bs ih => rw [List.map_cons, bools, ih]; rfl
theorem bools_ok : ∀ {ds : List D} {bs : List Bool}, bools ds = .ok bs → ds = bs.map .bool
  | [], bs, h => by cases h; rfl
  | .bool b :: r, bs, h => by
    rw [bools] at h
    cases e : bools r with
    | ok bs' => rw [e] at h; cases h; rw [List.map_cons, ← bools_ok e]
    | exc x => rw [e] at h; cases h
    | stuck => rw [e] at h; cases h
  | .none :: _, _, h => by cases h
  | .int _ :: _, _, h => by cases h
  | .str _ :: _, _, h => by cases h
  | .list _ :: _, _, h => by cases h
  | .tuple _ :: _, _, h => by cases h
  | .dict _ :: _, _, h => by cases h
theorem bools_clean : ∀ ds : List D, (bools ds).clean
  | [] => trivial
  | .bool b :: r => by
    have := bools_clean r
    rw [bools]
    cases e : bools r with
    | ok bs' => trivial
    | exc x => rw [e] at this; exact this
    | stuck => trivial
  | .none :: _ => trivial
  | .int _ :: _ => trivial
  | .str _ :: _ => trivial
  | .list _ :: _ => trivial
  | .tuple _ :: _ => trivial
  | .dict _ :: _ => trivial
theorem clean_bind {α β : Type} {r : R α} {f : α → R β} (h : r.clean) (hf : ∀ a, (f a).clean) : (r >>= f).clean := by
  cases r with
  | ok a => exact hf a
  | exc x => exact h
  | stuck => trivial
theorem cl_all (x : List D) : (dAll x).clean := by unfold dAll; split <;> first | trivial | exact clean_bind (bools_clean _) fun _ => trivial
theorem cl_any (x : List D) : (dAny x).clean := by unfold dAny; split <;> first | trivial | exact clean_bind (bools_clean _) fun _ => trivial
theorem rds_bools {w : World} {K : PySem.W.Frag} {Z : Hp} : ∀ {vs : List V} {bs : List Bool}, RDs w K Z vs (bs.map .bool) → vs = bs.map V.bl
  | _, [], h => by cases h; rfl
  | _, b :: bs, h => by
    cases h with
    | cons h t => cases h; rw [List.map_cons, rds_bools t]
theorem rds_ints {w : World} {K : PySem.W.Frag} {Z : Hp} : ∀ {vs : List V} {ns : List Int}, RDs w K Z vs (ns.map .int) → vs = ns.map V.int
  | _, [], h => by cases h; rfl
  | _, b :: bs, h => by
    cases h with
    | cons h t => cases h; rw [List.map_cons, rds_ints t]
theorem rds_strs {w : World} {K : PySem.W.Frag} {Z : Hp} : ∀ {vs : List V} {ns : List Str}, RDs w K Z vs (ns.map .str) → vs = ns.map V.str
  | _, [], h => by cases h; rfl
  | _, b :: bs, h => by
    cases h with
    | cons h t => cases h; rw [List.map_cons, rds_strs t]
theorem cd_all : CaD X (rAll X.K) dAll := by
  intro Z H xs ds Q s r h
  unfold dAll at h
  split at h
  · rename_i ds
    obtain ⟨v, rfl, r0⟩ := rds1 r
    cases e : bools ds with
    | ok bs =>
      rw [e] at h
      have ed := bools_ok e
      subst ed
      cases r0 with
      | lst h1 r1 =>
        have := rds_bools r1
        subst this
        exact ⟨_, bs, rfl, .inl (.inl (s _ _ h1)), h _ _ _ (Ext.refl s) (.bl _)⟩
    | exc x => rw [e] at h; exact h.elim
    | stuck => rw [e] at h; exact h.elim
  · exact h.elim
theorem cd_any : CaD X (rAny X.K) dAny := by
  intro Z H xs ds Q s r h
  unfold dAny at h
  split at h
  · rename_i ds
    obtain ⟨v, rfl, r0⟩ := rds1 r
    cases e : bools ds with
    | ok bs =>
      rw [e] at h
      have ed := bools_ok e
      subst ed
      cases r0 with
      | lst h1 r1 =>
        have := rds_bools r1
        subst this
        exact ⟨_, bs, rfl, .inl (.inl (s _ _ h1)), h _ _ _ (Ext.refl s) (.bl _)⟩
    | exc x => rw [e] at h; exact h.elim
    | stuck => rw [e] at h; exact h.elim
  · exact h.elim
theorem ev_all (hc : X.calm = true) (hm : X.mg "all" = none) (ha : Ea X W [a] Fs) (hg : Gl X "all" := by rfl) : Ev X W (.Call (.Name "all" p) [a] [] pos) (eA dAll Fs) :=
  ev_A (fun h => pe_callB (cr_all hc) hg hm (by decide +kernel) h (he := ha.se _ _ rfl) (hpl := ha.plt _ _ rfl _)) cd_all cl_all ha
theorem ev_any (hc : X.calm = true) (hm : X.mg "any" = none) (ha : Ea X W [a] Fs) (hg : Gl X "any" := by rfl) : Ev X W (.Call (.Name "any" p) [a] [] pos) (eA dAny Fs) :=
  ev_A (fun h => pe_callB (cr_any hc) hg hm (by decide +kernel) h (he := ha.se _ _ rfl) (hpl := ha.plt _ _ rfl _)) cd_any cl_any ha

/-! ### tuple(x), list(x) -/
def dTuple : List D → R D
  | [.list ds] => .ok (.tuple ds)
  | [.tuple ds] => .ok (.tuple ds)
  | _ => .stuck
theorem cl_tuple (x : List D) : (dTuple x).clean := by unfold dTuple; split <;> trivial
abbrev rTupleOf (K : PySem.W.Frag) : List V → Hp → VK → Prop := fun xs H Q => ∃ p ys, xs = [.ref p] ∧ ((SqL K H p ys ∧ ∀ l, H l = none → Q (.ref l) (upd H l (.tup ys))) ∨ (SqT K H p ys ∧ Q (.ref p) H))
theorem cd_tuple : CaD X (rTupleOf X.K) dTuple := by
  intro Z H xs ds Q s r h
  unfold dTuple at h
  split at h
  · obtain ⟨v, rfl, r0⟩ := rds1 r
    cases r0 with
    | lst h1 r1 =>
      rename_i q ys
      refine ⟨q, ys, rfl, .inl ⟨.inl (.inl (s _ _ h1)), fun l hl => ?_⟩⟩
      have x := Ext.new (o := .tup ys) s hl
      exact h _ _ _ x (.tup (.inl (.inl upd_same)) (r1.mono x.zz))
  · obtain ⟨v, rfl, r0⟩ := rds1 r
    cases r0 with
    | tup h1 r1 => exact ⟨_, _, rfl, .inr ⟨SqT.mono s h1, h _ _ _ (Ext.refl s) (.tup h1 r1)⟩⟩
  · exact h.elim
theorem ev_tuple (hm : X.mg "tuple" = none) (ha : Ea X W [a] Fs) (hg : Gl X "tuple" := by rfl) : Ev X W (.Call (.Name "tuple" p) [a] [] pos) (eA dTuple Fs) :=
  ev_A (fun h => pe_callTy call_tuple_of hg hm boot_tuple h (he := ha.se _ _ rfl) (hpl := ha.plt _ _ rfl _)) cd_tuple cl_tuple ha

/-- what gives a new object of one's own -/
abbrev QO (X : Cx) (Z H : Hp) (Q : VK) (d : D) : Prop := ∀ a Z' H', Ext Z H Z' H' → H a = none → Own X.w X.K Z' H' a d → Q (.ref a) H'
def CaO (X : Cx) (r : List V → Hp → VK → Prop) (f : List D → R D) : Prop := ∀ (Z H : Hp) (xs : List V) (ds : List D) (Q : VK), Same Z H → RDs X.w X.K Z xs ds → Post0 (f ds) (QO X Z H Q) → r xs H Q
theorem hnone {Z H Z' H' : Hp} (x : Ext Z H Z' H') {a : Addr} (h : H' a = none) : H a = none := by
  cases e : H a with
  | none => rfl
  | some u => have := x.hh a u e; rw [h] at this; cases this
theorem eo_A {r : List V → Hp → VK → Prop} {f : List D → R D} (h : ∀ {ta : TA}, PA X es ta → PE X e (tCB r ta)) (ho : CaO X r f) (cl : ∀ x, (f x).clean) (ha : Ea X W es Fs) : Eo X W e (eA f Fs) := by
  refine ⟨fun {Z0 H0 Z H σ ρ Q} r q => toAt (h pa_at) ?_⟩
  refine ha.go r (q.bind.mono fun d hd v Z1 H1 x1 r1 => ?_)
  refine ho Z1 H1 v d Q x1.zh r1 ?_
  have p := hd.to0 (cl d)
  cases hf : f d with
  | ok z => rw [hf] at p; exact fun v3 Z3 H3 x3 hn r3 => p v3 Z3 H3 (x1.trans x3) (hnone x1 hn) r3
  | exc x => rw [hf] at p; exact p.elim
  | stuck => rw [hf] at p; exact p.elim
def dList : List D → R D
  | [.list ds] => .ok (.list ds)
  | [.tuple ds] => .ok (.list ds)
  | _ => .stuck
theorem cl_list (x : List D) : (dList x).clean := by unfold dList; split <;> trivial
abbrev rListOf (K : PySem.W.Frag) : List V → Hp → VK → Prop := fun xs H Q => ∃ p ys, xs = [.ref p] ∧ (SqL K H p ys ∨ SqT K H p ys) ∧ ∀ l, H l = none → Q (.ref l) (upd H l (.lst ys))
theorem co_list : CaO X (rListOf X.K) dList := by
  intro Z H xs ds Q s r h
  unfold dList at h
  split at h
  · obtain ⟨v, rfl, r0⟩ := rds1 r
    cases r0 with
    | lst h1 r1 => exact ⟨_, _, rfl, .inl (.inl (.inl (s _ _ h1))), fun l hl => h _ _ _ (Ext.newO s hl) hl (.lst (zfree s hl) upd_same r1)⟩
  · obtain ⟨v, rfl, r0⟩ := rds1 r
    cases r0 with
    | tup h1 r1 => exact ⟨_, _, rfl, .inr (SqT.mono s h1), fun l hl => h _ _ _ (Ext.newO s hl) hl (.lst (zfree s hl) upd_same r1)⟩
  · exact h.elim
theorem eo_list (hm : X.mg "list" = none) (ha : Ea X W [a] Fs) (hg : Gl X "list" := by rfl) : Eo X W (.Call (.Name "list" p) [a] [] pos) (eA dList Fs) :=
  eo_A (fun h => pe_callTy call_list_of hg hm boot_list h (he := ha.se _ _ rfl) (hpl := ha.plt _ _ rfl _)) co_list cl_list ha

/-! ### list(range(..)), tuple(range(..)) -/
abbrev ER := Rho → R (Int × Int)
structure Er (X : Cx) (W : WX) (e : Expr) (F : ER) : Prop where
  go : ∀ {Z0 H0 Z H : Hp} {σ : St} {ρ : Rho} {Q : Int → Int → Hp → Prop}, Rep X.w X.K Z0 H0 Z H σ ρ → Post X W Z H σ (F ρ) (fun o => ∀ Z' H', Ext Z H Z' H' → Q o.1 o.2 H') →
    ∃ t, PRg X e t ∧ t σ H Q
def asI : D → R Int
  | .int i => .ok i
  | _ => .stuck
def rg1 (F : EV) : ER := fun ρ => F ρ >>= asI >>= fun n => .ok (0, n)
def rg2 (F G : EV) : ER := fun ρ => F ρ >>= asI >>= fun m => G ρ >>= asI >>= fun n => .ok (m, n)
theorem er_1 (hm : X.mg "range" = none) (ha : Ev X W a F) (hg : Gl X "range" := by rfl) (na : starEach [a] X.env = (false, eval a X.env) :: starEach [] X.env := by rfl) : Er X W (.Call (.Name "range" p) [a] [] pos) (rg1 F) := by
  refine ⟨fun {Z0 H0 Z H σ ρ Q} r q => ⟨_, prg_1 hg hm pe_at na, ?_⟩⟩
  refine ha.go r (q.bind.bind.mono fun d hd v Z1 H1 x1 r1 => ?_)
  cases d with
  | int i => cases r1; exact ⟨i, rfl, hd _ _ x1⟩
  | _ => exact hd.elim
theorem er_2 (hm : X.mg "range" = none) (ha : Ev X W a F) (hb : Ev X W b G) (hg : Gl X "range" := by rfl) (na : starEach [a, b] X.env = (false, eval a X.env) :: starEach [b] X.env := by rfl)
    (nb : starEach [b] X.env = (false, eval b X.env) :: starEach [] X.env := by rfl) (np : (backTo pos (starEach [b] X.env)).any (·.1) = false := by rfl) : Er X W (.Call (.Name "range" p) [a, b] [] pos) (rg2 F G) := by
  refine ⟨fun {Z0 H0 Z H σ ρ Q} r q => ⟨_, prg_2 hg hm pe_at pe_at na nb np, ?_⟩⟩
  refine ha.go r (q.bind.bind.mono fun d hd v Z1 H1 x1 r1 => ?_)
  cases d with
  | int i =>
    cases r1
    have hd : Post X W Z H σ (G ρ >>= asI >>= fun n => R.ok (i, n)) _ := hd
    refine hb.go (r.step x1) ((hd.bind.bind.step x1).mono fun d2 hd2 v2 Z2 H2 x2 r2 => ?_)
    cases d2 with
    | int j => cases r2; exact ⟨i, j, rfl, rfl, hd2 _ _ (x1.trans x2)⟩
    | _ => exact hd2.elim
  | _ => exact hd.elim
def rgD (a b : Int) : List D := (List.range (b - a).toNat).map fun i => PyData.int (a + (i : Nat))
def rgOkB (a b : Int) : Bool := decide (-(2 ^ 62) ≤ a) && decide (a < 2 ^ 62) && decide (-(2 ^ 62) ≤ b) && decide (b < 2 ^ 62) && fits (b - a).toNat
theorem rgOk_of {a b : Int} (h : rgOkB a b = true) : RgOk a b := by
  simp only [rgOkB, Bool.and_eq_true, decide_eq_true_eq] at h
  exact ⟨h.1.1.1.1, h.1.1.1.2, h.1.1.2, h.1.2, fits_le h.2⟩
theorem rds_rg {w : World} {K : PySem.W.Frag} {Z : Hp} (a b : Int) : RDs w K Z (rgV a b) (rgD a b) := by
  refine .of_get (by unfold rgV rgD; simp) fun i v d h1 h2 => ?_
  unfold rgV at h1
  unfold rgD at h2
  rw [List.getElem?_map] at h1 h2
  cases e : (List.range (b - a).toNat)[i]? with
  | none => rw [e] at h1; cases h1
  | some j => rw [e] at h1 h2; cases h1; cases h2; exact .int _
def eLstRg (F : ER) : EV := fun ρ => F ρ >>= fun o => guardR (rgOkB o.1 o.2) (.list (rgD o.1 o.2))
def eTupRg (F : ER) : EV := fun ρ => F ρ >>= fun o => guardR (rgOkB o.1 o.2) (.tuple (rgD o.1 o.2))
theorem Post.guard {α : Type} {Z H : Hp} {σ : St} {c : Bool} {a : α} {P : α → Prop} (h : Post X W Z H σ (guardR c a) P) : c = true ∧ P a := by
  unfold guardR at h
  split at h
  · exact ⟨by assumption, h⟩
  · exact h.elim
theorem eo_listRg {FR : ER} (hc : X.calm = true) (hm : X.mg "list" = none) (ha : Er X W a FR) (hg : Gl X "list" := by rfl) (na : starEach [a] X.env = (false, eval a X.env) :: starEach [] X.env := by rfl) : Eo X W (.Call (.Name "list" p) [a] [] pos) (eLstRg FR) := by
  refine ⟨fun {Z0 H0 Z H σ ρ Q} r q => ?_⟩
  obtain ⟨t, ht, hq⟩ := ha.go (Q := fun a b H1 => RgOk a b ∧ ∀ q, H1 q = none → Q (.ref q) (upd H1 q (.lst (rgV a b)))) r (q.bind.mono fun o ho Z1 H1 x1 => by
    obtain ⟨hok, ho⟩ := ho.guard
    refine ⟨rgOk_of hok, fun l hl => ?_⟩
    exact ho _ _ _ (x1.trans (Ext.newO x1.zh hl)) (hnone x1 hl) (.lst (zfree x1.zh hl) upd_same (rds_rg _ _)))
  exact toAt (pe_listRg hc hg hm ht na) hq
theorem ev_tupRg {FR : ER} (hc : X.calm = true) (hm : X.mg "tuple" = none) (ha : Er X W a FR) (hg : Gl X "tuple" := by rfl) (na : starEach [a] X.env = (false, eval a X.env) :: starEach [] X.env := by rfl) : Ev X W (.Call (.Name "tuple" p) [a] [] pos) (eTupRg FR) := by
  refine ⟨fun {Z0 H0 Z H σ ρ Q} r q => ?_⟩
  obtain ⟨t, ht, hq⟩ := ha.go (Q := fun a b H1 => RgOk a b ∧ ∀ q, H1 q = none → Q (.ref q) (upd H1 q (.tup (rgV a b)))) r (q.bind.mono fun o ho Z1 H1 x1 => by
    obtain ⟨hok, ho⟩ := ho.guard
    refine ⟨rgOk_of hok, fun l hl => ?_⟩
    exact ho _ _ _ (x1.trans (Ext.new (o := .tup (rgV o.1 o.2)) x1.zh hl)) (.tup (.inl (.inl upd_same)) (rds_rg _ _)))
  exact toAt (pe_tupRg hc hg hm ht na) hq
end
end PQ

/-! PQ.7: targets, what is walked, comprehensions -/
namespace PQ
open PySem PySem.Spec PyProof.Rows L2
open PySem.W (alike alikeAll dataLt rcLt_alike)

/-! ### targets -/
def PGat (X : Cx) (tg : Expr) (v : V) (σ : St) (H : Hp) (Q : St → Hp → Prop) : Prop := ∀ (pins : List (Addr × Obj)) (s : Shared) (u : Value), Inv X pins σ H s → RelV v u →
  wpAny (model X.prog X.w) X.A (assign tg X.env u) (fun _ s' => ∃ σ' H', Inv X pins σ' H' s' ∧ Q σ' H') X.xe s
theorem pg_at {X : Cx} {tg : Expr} : PG X tg (PGat X tg) := ⟨fun pins s σ H v u Q I r h => h pins s u I r⟩
theorem toAtG {X : Cx} {tg : Expr} {t : TG} {v : V} {σ : St} {H : Hp} {Q : St → Hp → Prop} (h : PG X tg t) (q : t v σ H Q) : PGat X tg v σ H Q := fun pins s u I r => h.run pins s σ H v u Q I r q
def PGsat (X : Cx) (ts : List Expr) (vs : List V) (σ : St) (H : Hp) (Q : St → Hp → Prop) : Prop := ∀ (pins : List (Addr × Obj)) (s : Shared) (us : List Value), Inv X pins σ H s → Vals vs us →
  wpAny (model X.prog X.w) X.A (assignInOrder ((assignEach ts X.env).map (·.2)) us) (fun _ s' => ∃ σ' H', Inv X pins σ' H' s' ∧ Q σ' H') X.xe s
theorem pgs_at {X : Cx} {ts : List Expr} : PGs X ts (PGsat X ts) := ⟨fun pins s σ H v u Q I r h => h pins s u I r⟩
theorem toAtGs {X : Cx} {ts : List Expr} {t : TGs} {v : List V} {σ : St} {H : Hp} {Q : St → Hp → Prop} (h : PGs X ts t) (q : t v σ H Q) : PGsat X ts v σ H Q := fun pins s u I r => h.run pins s σ H v u Q I r q

/-- the slots outside js stand -/
structure Outside (js : List Nat) (σ σ' : St) : Prop where
  len : σ'.length = σ.length
  at' : ∀ j, j ∉ js → σ'[j]? = σ[j]?
theorem Outside.refl {js : List Nat} {σ : St} : Outside js σ σ := ⟨rfl, fun _ _ => rfl⟩
theorem Outside.trans {js : List Nat} {σ σ' σ'' : St} (a : Outside js σ σ') (b : Outside js σ' σ'') : Outside js σ σ'' := ⟨b.len.trans a.len, fun j h => (b.at' j h).trans (a.at' j h)⟩
theorem Outside.mono {js ks : List Nat} {σ σ' : St} (a : Outside js σ σ') (h : ∀ j ∈ js, j ∈ ks) : Outside ks σ σ' := ⟨a.len, fun j hj => a.at' j fun z => hj (h j z)⟩
theorem wipe_at : ∀ (vs : List Nat) (σ : St) (j : Nat), (wipe σ vs)[j]? = if j ∈ vs ∧ j < σ.length then some none else σ[j]?
  | [], σ, j => by simp [wipe]
  | v :: vs, σ, j => by
    rw [wipe, List.getElem?_set, wipe_length, wipe_at vs σ j]
    by_cases hj : v = j
    · subst hj
      by_cases hl : v < σ.length
      · simp [hl]
      · simp [hl]
    · have : ¬ j = v := fun e => hj e.symm
      simp [hj, this]
theorem Outside.wipe {js : List Nat} {σ σ' : St} (h : Outside js σ σ') : L2.wipe σ' js = L2.wipe σ js := by
  apply List.ext_getElem?
  intro j
  rw [wipe_at, wipe_at, h.len]
  by_cases hj : j ∈ js
  · by_cases hl : j < σ.length
    · simp [hj, hl]
    · have h1 : σ.length ≤ j := by omega
      have h2 : σ'.length ≤ j := by rw [h.len]; exact h1
      simp [hl, List.getElem?_eq_none h1, List.getElem?_eq_none h2]
  · simp [hj]
    exact h.at' j hj
def wipeR (ρ : Rho) : List Nat → Rho
  | [] => ρ
  | v :: vs => (wipeR ρ vs).set v .u
theorem Rep.wipe {w : World} {K : PySem.W.Frag} {Z0 H0 Z H : Hp} {σ : St} {ρ : Rho} (r : Rep w K Z0 H0 Z H σ ρ) : ∀ vs : List Nat, Rep w K Z0 H0 Z H (L2.wipe σ vs) (wipeR ρ vs)
  | [] => r
  | v :: vs => by
    unfold L2.wipe wipeR
    exact (Rep.wipe r vs).setU v none

abbrev EG := D → Rho → R Rho
structure Eg (X : Cx) (tg : Expr) (A : EG) (js : List Nat) : Prop where
  go : ∀ {Z0 H0 Z H : Hp} {σ : St} {ρ : Rho} {v : V} {d : D} {Q : St → Hp → Prop}, Rep X.w X.K Z0 H0 Z H σ ρ → RD X.w X.K Z v d → Post0 (A d ρ) (fun ρ' => ∀ σ', Outside js σ σ' → Rep X.w X.K Z0 H0 Z H σ' ρ' → Q σ' H) → PGat X tg v σ H Q
  cl : ∀ d ρ, (A d ρ).clean
structure Egs (X : Cx) (ts : List Expr) (A : List D → Rho → R Rho) (js : List Nat) : Prop where
  go : ∀ {Z0 H0 Z H : Hp} {σ : St} {ρ : Rho} {vs : List V} {ds : List D} {Q : St → Hp → Prop}, Rep X.w X.K Z0 H0 Z H σ ρ → RDs X.w X.K Z vs ds → Post0 (A ds ρ) (fun ρ' => ∀ σ', Outside js σ σ' → Rep X.w X.K Z0 H0 Z H σ' ρ' → Q σ' H) → PGsat X ts vs σ H Q
  cl : ∀ d ρ, (A d ρ).clean
  n : ∀ ds ρ ρ', A ds ρ = .ok ρ' → ds.length = ts.length
def aName (i : Nat) : EG := fun d ρ => .ok (ρ.set i (.f d))
def aNil : List D → Rho → R Rho := fun ds ρ => match ds with
  | [] => .ok ρ
  | _ => .stuck
def aCons (A : EG) (B : List D → Rho → R Rho) : List D → Rho → R Rho := fun ds ρ => match ds with
  | d :: ds => A d ρ >>= fun ρ' => B ds ρ'
  | [] => .stuck
def aTup (B : List D → Rho → R Rho) : EG := fun d ρ => match d with
  | .tuple ds => B ds ρ
  | _ => .stuck
section
variable {X : Cx} {W : WX} {e : Expr} {es : List Expr} {pos : Pos}
theorem eg_name (i : Nat) {x : Str} (hN : X.N.Nodup) (hi : X.N[i]? = some x := by rfl) (hx : Loc X.env.scope x := by first | exact Or.inl rfl | exact Or.inr rfl) (hf : X.fn x = true ∨ X.env.scope.names.lookup x = some .local := by first | exact .inl rfl | exact .inr rfl) : Eg X (.Name x pos) (aName i) [i] := by
  refine ⟨fun {Z0 H0 Z H σ ρ v d Q} r rd q => toAtG (pg_name hN hi hx hf) ?_, fun _ _ => trivial⟩
  refine q _ ⟨by simp, fun j hj => ?_⟩ (r.setF i rd)
  rw [List.getElem?_set_ne (fun e => hj (by simp [e]))]
theorem egs_nil : Egs X [] aNil [] := by
  refine ⟨fun {Z0 H0 Z H σ ρ vs ds Q} r rd q => toAtGs pgs_nil ?_, fun d ρ => by cases d <;> trivial, fun ds ρ ρ' h => by cases ds <;> first | rfl | cases h⟩
  cases rd with
  | nil => exact ⟨rfl, q _ Outside.refl r⟩
  | cons _ _ => exact q.elim
theorem egs_cons {A : EG} {B : List D → Rho → R Rho} {js ks : List Nat} (h1 : Eg X e A js) (h2 : Egs X es B ks) (hs : (assignEach (e :: es) X.env).map (·.2) = assign e X.env :: (assignEach es X.env).map (·.2) := by rfl) :
    Egs X (e :: es) (aCons A B) (js ++ ks) := by
  refine ⟨fun {Z0 H0 Z H σ ρ vs ds Q} r rd q => toAtGs (pgs_cons pg_at pgs_at hs) ?_, fun d ρ => ?_, fun ds ρ ρ' h => ?_⟩
  · cases rd with
    | nil => exact q.elim
    | cons rv rt =>
      refine ⟨_, _, rfl, ?_⟩
      rename_i v d vs' ds'
      have cl := h1.cl d ρ
      have q : Post0 (A d ρ >>= fun ρ' => B ds' ρ') _ := q
      cases e1 : A d ρ with
      | ok ρ1 =>
        rw [e1] at q
        refine h1.go r rv ?_
        rw [e1]
        intro σ1 o1 r1
        refine h2.go r1 rt ?_
        have cl2 := h2.cl ds' ρ1
        have q : Post0 (B ds' ρ1) _ := q
        cases e2 : B ds' ρ1 with
        | ok ρ2 =>
          rw [e2] at q
          intro σ2 o2 r2
          exact q _ ((o1.mono fun j hj => List.mem_append_left _ hj).trans (o2.mono fun j hj => List.mem_append_right _ hj)) r2
        | exc x => rw [e2] at q; exact q.elim
        | stuck => rw [e2] at q; exact q.elim
      | exc x => rw [e1] at cl; exact cl.elim
      | stuck => rw [e1] at q; exact q.elim
  · cases d with
    | nil => trivial
    | cons d ds => exact clean_bind (h1.cl d ρ) fun ρ' => h2.cl ds ρ'
  · cases ds with
    | nil => cases h
    | cons d ds =>
      have h : (A d ρ >>= fun ρ' => B ds ρ') = .ok ρ' := h
      cases e1 : A d ρ with
      | ok ρ1 =>
        rw [e1] at h
        rw [List.length_cons, List.length_cons, h2.n ds ρ1 ρ' h]
      | exc x => rw [e1] at h; cases h
      | stuck => rw [e1] at h; cases h
theorem eg_tup {B : List D → Rho → R Rho} {js : List Nat} {k : Nat} (hc : X.calm = true) (h : Egs X es B js) (hn : (assignEach es X.env).length = es.length := by rfl) (hst : (assignEach es X.env).findIdx? (·.1) = none := by rfl) : Eg X (.Tuple es k pos) (aTup B) js := by
  refine ⟨fun {Z0 H0 Z H σ ρ v d Q} r rd q => toAtG (pg_tup hc pgs_at hn hst) ?_, fun d ρ => ?_⟩
  · cases d with
    | tuple ds =>
      cases rd with
      | tup h1 r1 =>
        refine ⟨_, _, rfl, SqT.mono r.zh h1, ?_, h.go r r1 q⟩
        rw [r1.length]
        have q : Post0 (B ds ρ) _ := q
        cases e1 : B ds ρ with
        | ok ρ1 => exact h.n ds ρ ρ1 e1
        | exc x => rw [e1] at q; exact q.elim
        | stuck => rw [e1] at q; exact q.elim
    | _ => exact q.elim
  · cases d <;> first | trivial | exact h.cl _ _
end

/-! ### what is walked -/
def PIat (X : Cx) (tg iter : Expr) (σ : St) (H : Hp) (R' : It → Hp → Prop) : Prop := ∀ (pins : List (Addr × Obj)) (s : Shared), Inv X pins σ H s →
  wpAny (model X.prog X.w) X.A (eval iter X.env) (fun v s1 => wpAny (model X.prog X.w) X.A (pyIter v) (PIE X pins σ tg R') X.xe s1) X.xe s
theorem pi_at {X : Cx} {tg iter : Expr} : PI X tg iter (PIat X tg iter) := ⟨fun pins s σ H R' I h => h pins s I⟩
theorem toAtI {X : Cx} {tg iter : Expr} {t : TI} {σ : St} {H : Hp} {Q : It → Hp → Prop} (h : PI X tg iter t) (q : t σ H Q) : PIat X tg iter σ H Q := fun pins s I => h.run pins s σ H Q I q
/-- J yields ds while Z stands -/
structure ItOk (X : Cx) (J : It) (Z : Hp) (ds : List D) : Prop where
  stop : ∀ {Z' H' : Hp}, Same Z Z' → Same Z' H' → J.stop ds.length H'
  go : ∀ {i : Nat} {Z' H' : Hp} {d : D}, Same Z Z' → Same Z' H' → ds[i]? = some d → J.go i H'
  yld : ∀ {i : Nat} {Z' H' : Hp} {d : D} {x : V} {H'' : Hp}, Same Z Z' → Same Z' H' → ds[i]? = some d → J.yld i H' x H'' → ∃ Z'', Ext Z' H' Z'' H'' ∧ RD X.w X.K Z'' x d
abbrev EI := Rho → R (List D)
structure Ei (X : Cx) (W : WX) (tg iter : Expr) (F : EI) : Prop where
  go : ∀ {Z0 H0 Z H : Hp} {σ : St} {ρ : Rho} {Q : It → Hp → Prop}, Rep X.w X.K Z0 H0 Z H σ ρ → Post X W Z H σ (F ρ) (fun ds => ∀ J Z' H', Ext Z H Z' H' → ItOk X J Z' ds → Q J H') → PIat X tg iter σ H Q
section
variable {X : Cx} {W : WX} {a b c e tg : Expr} {es : List Expr} {pos p : Pos} {F G : EV} {Fs : EA}
theorem io_list {Z : Hp} {l : Addr} {xs : List V} {ds : List D} (h : Z l = some (.lst xs)) (r : RDs X.w X.K Z xs ds) : ItOk X (Itl X.K l) Z ds := by
  have at' : ∀ {Z' H' : Hp}, Same Z Z' → Same Z' H' → SqL X.K H' l xs := fun s1 s2 => .inl (.inl (s2 _ _ (s1 _ _ h)))
  refine ⟨fun s1 s2 => ⟨xs, at' s1 s2, by rw [r.length]; exact Nat.le_refl _⟩, fun s1 s2 e => ?_, fun s1 s2 e y => ?_⟩
  · obtain ⟨v, hv, _⟩ := r.get e
    exact ⟨xs, v, at' s1 s2, hv⟩
  · obtain ⟨rfl, hy⟩ := y
    obtain ⟨v, hv, rv⟩ := r.get e
    have := hy xs (at' s1 s2)
    rw [hv] at this; cases this
    exact ⟨_, Ext.refl s2, rv.mono s1⟩
theorem io_tup {Z : Hp} {l : Addr} {xs : List V} {ds : List D} (h : SqT X.K Z l xs) (r : RDs X.w X.K Z xs ds) : ItOk X (Itt X.K l) Z ds := by
  have at' : ∀ {Z' H' : Hp}, Same Z Z' → Same Z' H' → SqT X.K H' l xs := fun s1 s2 => SqT.mono s2 (SqT.mono s1 h)
  refine ⟨fun s1 s2 => ⟨xs, at' s1 s2, by rw [r.length]; exact Nat.le_refl _⟩, fun s1 s2 e => ?_, fun s1 s2 e y => ?_⟩
  · obtain ⟨v, hv, _⟩ := r.get e
    exact ⟨xs, v, at' s1 s2, hv⟩
  · obtain ⟨rfl, hy⟩ := y
    obtain ⟨v, hv, rv⟩ := r.get e
    have := hy xs (at' s1 s2)
    rw [hv] at this; cases this
    exact ⟨_, Ext.refl s2, rv.mono s1⟩
def signs (z : Str) : List D := z.cps.toList.map fun c => .str ⟨#[c]⟩
theorem io_str {Z : Hp} {z : Str} : ItOk X (Its z) Z (signs z) := by
  have el : (signs z).length = z.cps.size := by unfold signs; rw [List.length_map, Array.length_toList]
  have ea : ∀ {i : Nat} {d : D}, (signs z)[i]? = some d → ∃ c, z.cps[i]? = some c ∧ d = .str ⟨#[c]⟩ := fun {i d} e => by
    unfold signs at e
    rw [List.getElem?_map, Array.getElem?_toList] at e
    cases h : z.cps[i]? with
    | none => rw [h] at e; cases e
    | some c => rw [h] at e; cases e; exact ⟨c, rfl, rfl⟩
  refine ⟨fun s1 s2 => Nat.le_of_eq el.symm, fun s1 s2 e => ?_, fun s1 s2 e y => ?_⟩
  · obtain ⟨c, hc, _⟩ := ea e
    exact (Array.getElem?_eq_some_iff.mp hc).1
  · obtain ⟨c, hc, rfl⟩ := ea e
    obtain ⟨rfl, c', hc', rfl⟩ := y
    rw [hc] at hc'; cases hc'
    exact ⟨_, Ext.refl s2, .str _⟩
def seqOf : D → R (List D)
  | .list ds => .ok ds
  | .tuple ds => .ok ds
  | .str z => .ok (signs z)
  | _ => .stuck
def iSeq (F : EV) : EI := fun ρ => F ρ >>= seqOf
theorem ei_seq (ha : Ev X W e F) : Ei X W tg e (iSeq F) := by
  refine ⟨fun {Z0 H0 Z H σ ρ Q} r q => ?_⟩
  unfold iSeq at q
  have g := ha.go r (Q := fun x H1 => ∃ a, x = V.ref a ∧ (∃ xs, SqL X.K H1 a xs) ∧ Q (Itl X.K a) H1)
  have g2 := ha.go r (Q := fun x H1 => ∃ a, x = V.ref a ∧ (∃ xs, SqT X.K H1 a xs) ∧ Q (Itt X.K a) H1)
  have g3 := ha.go r (Q := fun x H1 => ∃ z, x = V.str z ∧ Q (Its z) H1)
  cases h : F ρ with
  | ok d =>
    rw [h] at q g g2 g3
    cases d with
    | list ds =>
      refine toAtI (pi_list pe_at) (g fun v Z' H' x rv => ?_)
      cases rv with
      | lst h1 r1 => exact ⟨_, rfl, ⟨_, .inl (.inl (x.zh _ _ h1))⟩, q _ _ _ x (io_list h1 r1)⟩
    | tuple ds =>
      refine toAtI (pi_tup pe_at) (g2 fun v Z' H' x rv => ?_)
      cases rv with
      | tup h1 r1 => exact ⟨_, rfl, ⟨_, SqT.mono x.zh h1⟩, q _ _ _ x (io_tup h1 r1)⟩
    | str z =>
      refine toAtI (pi_str pe_at) (g3 fun v Z' H' x rv => ?_)
      cases rv with
      | str _ => exact ⟨_, rfl, q _ _ _ x io_str⟩
    | _ => exact q.elim
  | exc x =>
    rw [h] at q g
    exact toAtI (pi_list pe_at) (g q)
  | stuck => rw [h] at q; exact q.elim

/-! range -/
def big62 (i : Int) : Bool := match i with
  | .ofNat n => Nat.blt n 4611686018427387904
  | .negSucc n => Nat.blt n 4611686018427387904
theorem big62_of {i : Int} (h : big62 i = true) : -(2 ^ 62) ≤ i ∧ i < 2 ^ 62 := by
  cases i with
  | ofNat n =>
    have h : Nat.blt n 4611686018427387904 = true := h
    have h : n < 4611686018427387904 := by
      have := Nat.le_of_ble_eq_true h
      omega
    have e : (Int.ofNat n) = (n : Int) := rfl
    rw [e]
    omega
  | negSucc n =>
    have h : Nat.blt n 4611686018427387904 = true := h
    have h : n < 4611686018427387904 := by
      have := Nat.le_of_ble_eq_true h
      omega
    have e : (Int.negSucc n) = -((n : Int) + 1) := by omega
    rw [e]
    omega
theorem io_rng {Z : Hp} (lo hi : Int) : ItOk X (Itr lo (hi - lo).toNat) Z (rgD lo hi) := by
  have el : (rgD lo hi).length = (hi - lo).toNat := by unfold rgD; simp
  refine ⟨fun s1 s2 => Nat.le_of_eq el.symm, fun {i Z' H' d} s1 s2 e => ?_, fun {i Z' H' d x H''} s1 s2 e y => ?_⟩
  · rw [← el]; exact (List.getElem?_eq_some_iff.mp e).1
  · obtain ⟨rfl, rfl⟩ := y
    have hi' : i < (rgD lo hi).length := (List.getElem?_eq_some_iff.mp e).1
    unfold rgD at e
    rw [List.getElem?_map, List.getElem?_range (by rw [el] at hi'; exact hi')] at e
    cases e
    exact ⟨_, Ext.refl s2, .int _⟩
def iRg1 (F : EV) : EI := fun ρ => F ρ >>= asI >>= fun n => guardR (big62 n) (rgD 0 n)
def iRg2 (F G : EV) : EI := fun ρ => F ρ >>= asI >>= fun m => G ρ >>= asI >>= fun n => guardR (big62 m && big62 n) (rgD m n)
theorem ei_range1 (hm : X.mg "range" = none) (ha : Ev X W a F) (hg : Gl X "range" := by rfl) (na : starEach [a] X.env = (false, eval a X.env) :: starEach [] X.env := by rfl) (hs : starEach [a] X.env = [(false, eval a X.env)] := by rfl) : Ei X W tg (.Call (.Name "range" p) [a] [] pos) (iRg1 F) := by
  refine ⟨fun {Z0 H0 Z H σ ρ Q} r q => toAtI (pi_range1 hg hm (pa_cons pe_at pa_nil na) hs) ?_⟩
  refine ha.go r (q.bind.bind.mono fun d hd v Z1 H1 x1 r1 => ?_)
  cases d with
  | int n =>
    cases r1
    have hd : Post X W Z H σ (guardR (big62 n) (rgD 0 n)) _ := hd
    obtain ⟨hb, hd⟩ := hd.guard
    obtain ⟨b1, b2⟩ := big62_of hb
    refine ⟨n, rfl, b1, b2, hd _ _ _ x1 ?_⟩
    have := io_rng (X := X) (Z := Z1) 0 n
    rw [Int.sub_zero] at this
    exact this
  | _ => exact hd.elim
theorem ei_range2 (hm : X.mg "range" = none) (ha : Ev X W a F) (hb : Ev X W b G) (hg : Gl X "range" := by rfl) (na : starEach [a, b] X.env = (false, eval a X.env) :: starEach [b] X.env := by rfl) (nb : starEach [b] X.env = (false, eval b X.env) :: starEach [] X.env := by rfl)
    (hs : starEach [a, b] X.env = [(false, eval a X.env), (false, eval b X.env)] := by rfl) (hs2 : starEach [b] X.env = [(false, eval b X.env)] := by rfl) : Ei X W tg (.Call (.Name "range" p) [a, b] [] pos) (iRg2 F G) := by
  refine ⟨fun {Z0 H0 Z H σ ρ Q} r q => toAtI (pi_range2 hg hm (pa_cons pe_at (pa_cons pe_at pa_nil nb) na) hs hs2) ?_⟩
  refine ha.go r (q.bind.bind.mono fun d hd v Z1 H1 x1 r1 => ?_)
  cases d with
  | int m =>
    cases r1
    have hd : Post X W Z H σ (G ρ >>= asI >>= fun n => guardR (big62 m && big62 n) (rgD m n)) _ := hd
    refine hb.go (r.step x1) ((hd.bind.bind.step x1).mono fun d2 hd2 v2 Z2 H2 x2 r2 => ?_)
    cases d2 with
    | int n =>
      cases r2
      have hd2 : Post X W Z H σ (guardR (big62 m && big62 n) (rgD m n)) _ := hd2
      obtain ⟨hb, hd2⟩ := hd2.guard
      rw [Bool.and_eq_true] at hb
      obtain ⟨b1, b2⟩ := big62_of hb.1
      obtain ⟨b3, b4⟩ := big62_of hb.2
      exact ⟨m, n, rfl, ⟨b1, b2, b3, b4⟩, hd2 _ _ _ (x1.trans x2) (io_rng m n)⟩
    | _ => exact hd2.elim
  | _ => exact hd.elim
end

/-! ### comprehensions -/
def nx {α : Type} : R α → R α
  | .exc _ => .stuck
  | r => r
def compR (step : D → R (Option D)) : List D → R (List D)
  | [] => .ok []
  | d :: ds => step d >>= fun o => compR step ds >>= fun ys => .ok (o.toList ++ ys)
theorem compR_snoc (step : D → R (Option D)) (d : D) : ∀ ds : List D, compR step (ds ++ [d]) = compR step ds >>= fun ys => step d >>= fun o => .ok (ys ++ o.toList)
  | [] => by
    simp only [List.nil_append, compR, R.ok_bind]
    cases step d with
    | ok o => simp
    | exc x => rfl
    | stuck => rfl
  | e :: ds => by
    rw [List.cons_append, compR, compR_snoc step d ds, compR]
    cases step e with
    | ok o =>
      cases compR step ds with
      | ok ys =>
        cases step d with
        | ok o2 => simp
        | exc x => rfl
        | stuck => rfl
      | exc x => rfl
      | stuck => rfl
    | exc x => rfl
    | stuck => rfl
theorem compR_take {step : D → R (Option D)} : ∀ {ds : List D} {ys : List D}, compR step ds = .ok ys → ∀ i, ∃ zs, compR step (ds.take i) = .ok zs
  | [], _, _, i => ⟨[], by simp [compR]⟩
  | d :: ds, ys, h, 0 => ⟨[], by simp [compR]⟩
  | d :: ds, ys, h, i + 1 => by
    rw [compR] at h
    rw [List.take_succ_cons, compR]
    cases e : step d with
    | ok o =>
      rw [e, R.ok_bind] at h
      cases e2 : compR step ds with
      | ok zs =>
        obtain ⟨zs', e3⟩ := compR_take e2 i
        exact ⟨_, by rw [R.ok_bind, e3, R.ok_bind]⟩
      | exc x => rw [e2] at h; cases h
      | stuck => rw [e2] at h; cases h
    | exc x => rw [e] at h; cases h
    | stuck => rw [e] at h; cases h
abbrev WF : WX := fun _ _ _ _ => False
/-- one turn -/
def cStep (A : EG) (T : ET) (F : EV) (ρ : Rho) (d : D) : R (Option D) := nx (A d ρ >>= fun ρ2 => T ρ2 >>= fun b => if b = true then F ρ2 >>= fun y => .ok (some y) else .ok none)
def eComp (Fi : EI) (A : EG) (T : ET) (F : EV) (vs : List Nat) : EV := fun ρ => Fi ρ >>= fun ds => guardR (fits ds.length) ds >>= fun ds => nx (compR (cStep A T F (wipeR ρ vs)) ds) >>= fun ys => .ok (.list ys)
def tTrue : ET := fun _ => .ok true
/-- the tests of a clause -/
structure Ets (X : Cx) (ifs : List Expr) (T : ET) : Prop where
  go : ∀ {Z0 H0 Z H : Hp} {σ : St} {ρ : Rho} {Q : Bool → Hp → Prop}, Rep X.w X.K Z0 H0 Z H σ ρ → Post X WF Z H σ (T ρ) (QB Z H Q) → ∃ t, PTs X ifs t ∧ t σ H Q
theorem ets_nil {X : Cx} : Ets X [] tTrue := ⟨fun r q => ⟨_, pts_nil, q _ _ (Ext.refl r.zh)⟩⟩
theorem ets_one {X : Cx} {c : Expr} {T : ET} (h : Et X WF c T) : Ets X [c] T := ⟨fun r q => ⟨_, pts_one pt_at, h.go r q⟩⟩
def PTsat (X : Cx) (ifs : List Expr) (σ : St) (H : Hp) (Q : Bool → Hp → Prop) : Prop := ∃ t, PTs X ifs t ∧ t σ H Q
theorem pts_at {X : Cx} {ifs : List Expr} : PTs X ifs (PTsat X ifs) := ⟨fun pins s σ H Q I ⟨t, h, q⟩ => h.run pins s σ H Q I q⟩
section
variable {X : Cx} {W : WX} {tg iter elt : Expr} {ifs : List Expr} {scope : Scope} {own : List (Str × Nat)} {pos p : Pos} {Fi : EI} {A : EG} {T : ET} {F : EV} {js : List Nat}
theorem wf_post {α : Type} {X : Cx} {Z H : Hp} {σ : St} {r : R α} {P : α → Prop} (h : Post0 (nx r) P) : Post X WF Z H σ r P := by
  cases r with
  | ok a => exact h
  | exc x => exact h.elim
  | stuck => exact h.elim
theorem lc_read (hi : Ei X W tg iter Fi) (hg : ∀ (s : Shared) (H : Hp) (C : Addr) (cl : List (Str × Addr)) (fp : List Addr), Eg (X.blk s H scope (compEnvC scope cl C X.env) fp) tg A js) (hjs : ∀ j ∈ js, j ∈ own.map (·.2))
    (ht : ∀ (s : Shared) (H : Hp) (C : Addr) (cl : List (Str × Addr)) (fp : List Addr), Ets (X.blk s H scope (compEnvC scope cl C X.env) fp) ifs T)
    (he : ∀ (s : Shared) (H : Hp) (C : Addr) (cl : List (Str × Addr)) (fp : List Addr), Ev (X.blk s H scope (compEnvC scope cl C X.env) fp) WF elt F)
    {Z0 H0 Z H : Hp} {σ : St} {ρ : Rho} {Q : VK} (r : Rep X.w X.K Z0 H0 Z H σ ρ) (q : Post X W Z H σ (eComp Fi A T F (own.map (·.2)) ρ) (QO X Z H Q)) :
    tLc (PIat X tg iter) (fun v σ H Q => ∀ s H0 C cl fp, PGat (X.blk s H0 scope (compEnvC scope cl C X.env) fp) tg v σ H Q) (fun σ H Q => ∀ s H0 C cl fp, PTsat (X.blk s H0 scope (compEnvC scope cl C X.env) fp) ifs σ H Q)
      (fun σ H Q => ∀ s H0 C cl fp, PEat (X.blk s H0 scope (compEnvC scope cl C X.env) fp) elt σ H Q) (own.map (·.2)) σ H Q := by
  generalize hvs : own.map (·.2) = vs at *
  refine hi.go r (q.bind.mono fun ds q J Z1 H1 x1 io D hD => ?_)
  have q := q.bind
  unfold guardR at q
  split at q
  rotate_left
  · exact q.elim
  rename_i hfit
  have hfit := fits_le hfit
  have q : Post X W Z H σ (nx (compR (cStep A T F (wipeR ρ vs)) ds) >>= fun ys => R.ok (PyData.list ys)) (QO X Z H Q) := q
  cases hC : compR (cStep A T F (wipeR ρ vs)) ds with
  | exc x => rw [hC] at q; exact q.elim
  | stuck => rw [hC] at q; exact q.elim
  | ok all =>
    rw [hC] at q
    have q : QO X Z H Q (.list all) := q
    refine ⟨fun i m Hc => m = ds.length - i ∧ i ≤ ds.length ∧ ∃ Zc acc ys, Ext Z1 H1 Zc Hc ∧ Zc D = none ∧ Hc D = some (.lst acc) ∧ acc.length ≤ i ∧ RDs X.w X.K Zc acc ys ∧ compR (cStep A T F (wipeR ρ vs)) (ds.take i) = .ok ys,
      ⟨ds.length, by simp, Nat.zero_le _, Z1, [], [], Ext.newO x1.zh hD, zfree x1.zh hD, upd_same, Nat.le_refl _, .nil, rfl⟩, ?_⟩
    rintro i m Hc ⟨rfl, hle, Zc, acc, ys, xc, zD, hcD, hal, racc, hcomp⟩
    by_cases hlt : i < ds.length
    · have hd : ds[i]? = some ds[i] := by simp [hlt]
      generalize ds[i] = d at hd
      refine .inr ⟨io.go xc.zz xc.zh hd, fun H' => i + 1 ≤ ds.length ∧ ∃ Zc acc ys, Ext Z1 H1 Zc H' ∧ Zc D = none ∧ H' D = some (.lst acc) ∧ acc.length ≤ i + 1 ∧ RDs X.w X.K Zc acc ys ∧ compR (cStep A T F (wipeR ρ vs)) (ds.take (i + 1)) = .ok ys,
        fun H' h => ⟨ds.length - (i + 1), by omega, rfl, h⟩, fun x H' hy s H00 C cl fp => ?_⟩
      obtain ⟨Z2, x2, rx⟩ := io.yld xc.zz xc.zh hd hy
      have x12 := xc.trans x2
      have r2 : Rep X.w X.K Z0 H0 Z2 H' (L2.wipe σ vs) (wipeR ρ vs) := (r.step (x1.trans x12)).wipe vs
      obtain ⟨zs, hzs⟩ := compR_take hC (i + 1)
      have hsn : compR (cStep A T F (wipeR ρ vs)) (ds.take (i + 1)) = compR (cStep A T F (wipeR ρ vs)) (ds.take i) >>= fun ys => cStep A T F (wipeR ρ vs) d >>= fun o => .ok (ys ++ o.toList) := by
        rw [List.take_add_one, hd]
        exact compR_snoc _ _ _
      rw [hcomp, hzs] at hsn
      have hsn : R.ok zs = cStep A T F (wipeR ρ vs) d >>= fun o => R.ok (ys ++ o.toList) := hsn
      have z2D : Z2 D = none := x2.nw D _ zD hcD
      have h2D : H' D = some (.lst acc) := x2.hh _ _ hcD
      unfold cStep at hsn
      cases e1 : A d (wipeR ρ vs) with
      | exc x => rw [e1] at hsn; cases hsn
      | stuck => rw [e1] at hsn; cases hsn
      | ok ρ2 =>
        rw [e1, R.ok_bind] at hsn
        refine (hg s H00 C cl fp).go r2 rx ?_
        rw [e1]
        intro σ2 o2 rr2
        refine ⟨(o2.mono hjs).wipe.trans ?_, fun s' H0' C' cl' fp' => ?_⟩
        · apply List.ext_getElem?
          intro j
          rw [wipe_at, wipe_at, wipe_length]
          split <;> rfl
        cases e2 : T ρ2 with
        | exc x => rw [e2] at hsn; cases hsn
        | stuck => rw [e2] at hsn; cases hsn
        | ok b =>
          rw [e2, R.ok_bind] at hsn
          refine (ht s' H0' C' cl' fp').go rr2 ?_
          rw [e2]
          intro Z3 H3 x3
          cases b with
          | false =>
            rw [if_neg Bool.false_ne_true] at hsn ⊢
            have e3 : zs = ys := by
              have hsn : R.ok zs = R.ok (ys ++ []) := hsn
              cases hsn; simp
            subst e3
            exact ⟨hlt, Z3, acc, zs, x12.trans x3, x3.nw D _ z2D h2D, x3.hh _ _ h2D, Nat.le_succ_of_le hal, racc.mono (x2.trans x3).zz, hzs⟩
          | true =>
            rw [if_pos rfl] at hsn ⊢
            intro s2 H02 C2 cl2 fp2
            cases e3 : F ρ2 with
            | exc x => rw [e3] at hsn; cases hsn
            | stuck => rw [e3] at hsn; cases hsn
            | ok y =>
              rw [e3] at hsn
              have e4 : zs = ys ++ [y] := by
                have hsn : R.ok zs = R.ok (ys ++ [y]) := hsn
                cases hsn; rfl
              subst e4
              refine (he s2 H02 C2 cl2 fp2).go (rr2.step x3) ?_
              rw [e3]
              intro v Z4 H4 x4 rv
              have x34 := x3.trans x4
              have h4D : H4 D = some (.lst acc) := x34.hh _ _ h2D
              have z4D : Z4 D = none := x34.nw D _ z2D h2D
              refine ⟨acc, h4D, Nat.lt_of_lt_of_le (Nat.lt_of_le_of_lt hal hlt) hfit, hlt, Z4, acc ++ [v], ys ++ [y], ?_, z4D, upd_same, by rw [List.length_append]; exact Nat.add_le_add_right hal 1, ?_, hzs⟩
              · have xx := x12.trans x34
                refine ⟨fun b u hb => ?_, xx.zz, fun b u hb => ?_, xx.nw⟩
                · rw [upd_ne (ne_of_none hb hD)]; exact xx.hh b u hb
                · rw [upd_ne (fun z => by rw [z, z4D] at hb; cases hb)]; exact xx.zh b u hb
              · exact (racc.mono (x2.trans x34).zz).append (.cons rv .nil)
    · have ei : i = ds.length := by omega
      subst ei
      refine .inl ⟨io.stop xc.zz xc.zh, ?_⟩
      rw [List.take_length, hC] at hcomp
      cases hcomp
      exact q D Zc Hc (x1.trans xc) (hnone x1 hD) (.lst zD hcD racc)
theorem eo_comp (hc : X.calm = true) (hN : X.N.Nodup) (hi : Ei X W tg iter Fi) (ok : BlkOk X.N X.env.scope scope own) (hg : ∀ (s : Shared) (H : Hp) (C : Addr) (cl : List (Str × Addr)) (fp : List Addr), Eg (X.blk s H scope (compEnvC scope cl C X.env) fp) tg A js) (hjs : ∀ j ∈ js, j ∈ own.map (·.2))
    (ht : ∀ (s : Shared) (H : Hp) (C : Addr) (cl : List (Str × Addr)) (fp : List Addr), Ets (X.blk s H scope (compEnvC scope cl C X.env) fp) ifs T)
    (he : ∀ (s : Shared) (H : Hp) (C : Addr) (cl : List (Str × Addr)) (fp : List Addr), Ev (X.blk s H scope (compEnvC scope cl C X.env) fp) WF elt F) (hs : ∀ x, foldedSetIterable iter X.env x = pure x := by intro _; rfl) :
    Eo X W (.ListComp elt [⟨tg, iter, ifs, 0⟩] scope pos) (eComp Fi A T F (own.map (·.2))) := by
  refine ⟨fun {Z0 H0 Z H σ ρ Q} r q => toAt (pe_lc hc hN pi_at ok ?_ ?_ ?_ hs) (lc_read hi hg hjs ht he r q)⟩
  · exact fun s H C cl fp => ⟨fun pins s' σ H' v u Q I rv h => (h s H C cl fp) pins s' u I rv⟩
  · exact fun s H C cl fp => ⟨fun pins s' σ H' Q I h => pts_at.run pins s' σ H' Q I (h s H C cl fp)⟩
  · exact fun s H C cl fp => ⟨fun pins s' σ H' Q I h => (h s H C cl fp) pins s' I⟩
end
end PQ

/-! PQ.8: statements, defs -/
namespace PQ
open PySem PySem.Spec PyProof.Rows L2
open PySem.W (alike alikeAll dataLt rcLt_alike)

/-- what a statement leads to -/
inductive Out where
  | nx (ρ : Rho)
  | ret (d : D)
  | bk (ρ : Rho)
  | ct (ρ : Rho)
  | exc (x : Exc) (ρ : Rho)
  | stuck
abbrev ES := Rho → Out
def Out.of {α : Type} (r : R α) (ρ : Rho) (k : α → Out) : Out := match r with
  | .ok a => k a
  | .exc x => .exc x ρ
  | .stuck => .stuck
@[simp] theorem Out.of_ok {α : Type} (a : α) (ρ : Rho) (k : α → Out) : Out.of (.ok a) ρ k = k a := id rfl
@[simp] theorem Out.of_exc {α : Type} (x : Exc) (ρ : Rho) (k : α → Out) : Out.of (.exc x) ρ k = .exc x ρ := id rfl

/-- i op= e of ints and texts -/
def dIAdd : D → D → R D
  | .int i, .int j => .ok (.int (i + j))
  | .str a, .str b => guardR (fits (a.length + b.length)) (.str (a ++ b))
  | _, _ => .stuck
def dISub : D → D → R D
  | .int i, .int j => .ok (.int (i - j))
  | _, _ => .stuck
def dIMul : D → D → R D
  | .int i, .int j => guardR (mulOk i j) (.int (i * j))
  | _, _ => .stuck
def dIFdiv : D → D → R D
  | .int i, .int j => guardR (divOk j) (.int (i / j))
  | _, _ => .stuck

def PSat (X : Cx) (st : Stmt) (D : Ends) (σ : St) (H : Hp) : Prop := ∀ (pins : List (Addr × Obj)) (s : Shared), Inv X pins σ H s → wpAny (model X.prog X.w) X.A (exec st X.env) (SP X pins D) X.xe s
theorem ps_at {X : Cx} {st : Stmt} : PS X st (PSat X st) := ⟨fun pins s σ H D I h => h pins s I⟩
theorem toAtS {X : Cx} {st : Stmt} {t : TS} {D : Ends} {σ : St} {H : Hp} (h : PS X st t) (q : t D σ H) : PSat X st D σ H := fun pins s I => h.run pins s σ H D I q
def PSsat (X : Cx) (sts : List Stmt) (D : Ends) (σ : St) (H : Hp) : Prop := ∀ (pins : List (Addr × Obj)) (s : Shared), Inv X pins σ H s → wpAny (model X.prog X.w) X.A (execs sts X.env) (SP X pins D) X.xe s
theorem pss_at {X : Cx} {st : List Stmt} : PSs X st (PSsat X st) := ⟨fun pins s σ H D I h => h pins s I⟩
theorem toAtSs {X : Cx} {st : List Stmt} {t : TS} {D : Ends} {σ : St} {H : Hp} (h : PSs X st t) (q : t D σ H) : PSsat X st D σ H := fun pins s I => h.run pins s σ H D I q

section
variable (X : Cx) (W : WX) (Z0 H0 Z : Hp)
/-- what is wanted of an outcome; Z stood frozen ahead of the statement -/
def SPost (o : Out) (D : Ends) : Prop := match o with
  | .nx ρ => ∀ σ Z' H', Rep X.w X.K Z0 H0 Z' H' σ ρ → Same Z Z' → D.nx σ H'
  | .ret d => ∀ v Z' H', Ext Z0 H0 Z' H' → RD X.w X.K Z' v d → D.rt v H'
  | .bk ρ => ∀ σ Z' H', Rep X.w X.K Z0 H0 Z' H' σ ρ → Same Z Z' → D.bk σ H'
  | .ct ρ => ∀ σ Z' H', Rep X.w X.K Z0 H0 Z' H' σ ρ → Same Z Z' → D.ct σ H'
  | .exc x ρ => ∀ cls dx σ Z' H', Rep X.w X.K Z0 H0 Z' H' σ ρ → Same Z Z' → RX X.w X.K X.mg Z' x cls dx → W cls dx σ H'
  | .stuck => False
end
structure Es (X : Cx) (W : WX) (st : Stmt) (S : ES) : Prop where
  go : ∀ {Z0 H0 Z H : Hp} {σ : St} {ρ : Rho} {D : Ends}, Rep X.w X.K Z0 H0 Z H σ ρ → SPost X W Z0 H0 Z (S ρ) D → PSat X st D σ H
structure Ess (X : Cx) (W : WX) (sts : List Stmt) (S : ES) : Prop where
  go : ∀ {Z0 H0 Z H : Hp} {σ : St} {ρ : Rho} {D : Ends}, Rep X.w X.K Z0 H0 Z H σ ρ → SPost X W Z0 H0 Z (S ρ) D → PSsat X sts D σ H

section
variable {X : Cx} {W : WX} {Z0 H0 Z H : Hp} {σ : St} {ρ : Rho} {D : Ends}
theorem SPost.step {Z' : Hp} {o : Out} (h : SPost X W Z0 H0 Z o D) (s : Same Z Z') : SPost X W Z0 H0 Z' o D := by
  cases o with
  | nx ρ => exact fun σ Z2 H2 r s2 => h σ Z2 H2 r (s.trans s2)
  | ret d => exact h
  | bk ρ => exact fun σ Z2 H2 r s2 => h σ Z2 H2 r (s.trans s2)
  | ct ρ => exact fun σ Z2 H2 r s2 => h σ Z2 H2 r (s.trans s2)
  | exc x ρ => exact fun cls dx σ Z2 H2 r s2 => h cls dx σ Z2 H2 r (s.trans s2)
  | stuck => exact h
theorem SPost.post {α : Type} {r : R α} {k : α → Out} (h : SPost X W Z0 H0 Z (Out.of r ρ k) D) (rp : Rep X.w X.K Z0 H0 Z H σ ρ) : Post X W Z H σ r fun a => SPost X W Z0 H0 Z (k a) D := by
  cases r with
  | ok a => exact h
  | exc x => exact fun cls dx Z' H' e rx => h cls dx σ Z' H' (rp.step e) e.zz rx
  | stuck => exact h

/-! ### values with their mode -/
/-- v bears s, new since H -/
def SlNew (w : World) (K : PySem.W.Frag) (H Z' H' : Hp) (v : V) : Sl → Prop
  | .f d => RD w K Z' v d
  | .o d => ∃ a, v = .ref a ∧ H a = none ∧ Own w K Z' H' a d
  | .n rows => ∃ a bs, v = .ref a ∧ (∀ b ∈ a :: bs, H b = none) ∧ NOwn w K Z' H' a bs rows
  | _ => False
structure Em (X : Cx) (W : WX) (e : Expr) (F : Rho → R Sl) : Prop where
  go : ∀ {Z0 H0 Z H : Hp} {σ : St} {ρ : Rho} {Q : VK}, Rep X.w X.K Z0 H0 Z H σ ρ → Post X W Z H σ (F ρ) (fun s => ∀ v Z' H', Ext Z H Z' H' → SlNew X.w X.K H Z' H' v s → Q v H') → PEat X e σ H Q
def mF (F : EV) : Rho → R Sl := fun ρ => F ρ >>= fun d => .ok (.f d)
def mO (F : EV) : Rho → R Sl := fun ρ => F ρ >>= fun d => .ok (.o d)
theorem Ev.em {e : Expr} {F : EV} (h : Ev X W e F) : Em X W e (mF F) := ⟨fun r q => h.go r (q.bind.mono fun d hd v Z' H' x rd => hd _ _ _ x rd)⟩
theorem Eo.em {e : Expr} {F : EV} (h : Eo X W e F) : Em X W e (mO F) := ⟨fun r q => h.go r (q.bind.mono fun d hd a Z' H' x hn ho => hd _ _ _ x ⟨a, rfl, hn, ho⟩)⟩
theorem SlNew.ext {w : World} {K : PySem.W.Frag} {H Z1 H1 Z2 H2 : Hp} {v : V} {s : Sl} (h : SlNew w K H Z1 H1 v s) (x : Ext Z1 H1 Z2 H2) : SlNew w K H Z2 H2 v s := by
  cases s with
  | f d => exact RD.mono x.zz h
  | o d => obtain ⟨a, e, n, o⟩ := h; exact ⟨a, e, n, o.ext x⟩
  | u => exact h
  | s d => exact h
  | x a b c => exact h
  | n rows =>
    obtain ⟨a, bs, e, n, q⟩ := h
    exact ⟨a, bs, e, n, q.keep x.zz fun b hb => by
      obtain ⟨h1, xs, h2⟩ := q.mem hb
      exact ⟨x.nw b _ h1 h2, fun o e => x.hh _ _ e⟩⟩
/-- a new value into slot i -/
theorem Rep.put {w : World} {K : PySem.W.Frag} {Z' H' : Hp} (r : Rep w K Z0 H0 Z H σ ρ) (x : Ext Z H Z' H') (i : Nat) {v : V} {s : Sl} (q : SlNew w K H Z' H' v s) : Rep w K Z0 H0 Z' H' (σ.set i (some v)) (ρ.set i s) := by
  cases s with
  | f d => exact (r.step x).setF i q
  | o d =>
    obtain ⟨a, rfl, hn, ho⟩ := q
    refine (r.step x).setO i ho ?_ fun j c s hj h1 h2 ow => ?_
    · cases e : H0 a with
      | none => rfl
      | some u => have := r.ext.hh a u e; rw [hn] at this; cases this
    · have ow2 := (r.sl j c s h1 h2).ownsBack (fun b _ o e => x.hh _ _ e) ow
      obtain ⟨⟨u, hu⟩, _⟩ := (r.sl j c s h1 h2).owned ow2
      rw [hn] at hu; cases hu
  | n rows =>
    obtain ⟨a, bs, rfl, hn, ho⟩ := q
    refine (r.step x).setN i ho (fun b hb => ?_) fun j c s b hj hb h1 h2 ow => ?_
    · cases e : H0 b with
      | none => rfl
      | some u => have := r.ext.hh b u e; rw [hn b hb] at this; cases this
    · have ow2 := (r.sl j c s h1 h2).ownsBack (fun b _ o e => x.hh _ _ e) ow
      obtain ⟨⟨u, hu⟩, _⟩ := (r.sl j c s h1 h2).owned ow2
      rw [hn b hb] at hu; cases hu
  | u => exact q.elim
  | s d => exact q.elim
  | x a b c => exact q.elim

/-! ### blocks -/
variable {st : Stmt} {sts : List Stmt} {e a b c : Expr} {pos p : Pos} {F G : EV} {T : ET} {S S' : ES}
def sNil : ES := .nx
def sCons (S S' : ES) : ES := fun ρ => match S ρ with
  | .nx ρ' => S' ρ'
  | o => o
theorem ess_nil : Ess X W [] sNil := ⟨fun r q => toAtSs pss_nil (q _ _ _ r (Same.refl _))⟩
theorem ess_one (h : Es X W st S) : Ess X W [st] S := ⟨fun r q => toAtSs (pss_one ps_at) (h.go r q)⟩
theorem ess_cons (h : Es X W st S) (h2 : Ess X W sts S') : Ess X W (st :: sts) (sCons S S') := by
  refine ⟨fun {Z0 H0 Z H σ ρ D} r q => toAtSs (pss_cons ps_at pss_at) ?_⟩
  refine h.go r ?_
  unfold sCons at q
  cases e : S ρ with
  | nx ρ' =>
    rw [e] at q
    exact fun σ' Z' H' r' s' => h2.go r' (SPost.step q s')
  | ret d => rw [e] at q; exact q
  | bk ρ' => rw [e] at q; exact q
  | ct ρ' => rw [e] at q; exact q
  | exc x ρ' => rw [e] at q; exact q
  | stuck => rw [e] at q; exact q
def sPass : ES := .nx
theorem es_pass : Es X W (.Pass pos) sPass := ⟨fun r q => toAtS ps_pass (q _ _ _ r (Same.refl _))⟩
def sBreak : ES := .bk
theorem es_break : Es X W (.Break pos) sBreak := ⟨fun r q => toAtS ps_break (q _ _ _ r (Same.refl _))⟩
def sContinue : ES := .ct
theorem es_continue : Es X W (.Continue pos) sContinue := ⟨fun r q => toAtS ps_continue (q _ _ _ r (Same.refl _))⟩
def sRet (F : EV) : ES := fun ρ => Out.of (F ρ) ρ .ret
theorem es_ret (h : Ev X W e F) : Es X W (.Return (some e) pos) (sRet F) := by
  refine ⟨fun {Z0 H0 Z H σ ρ D} r q => toAtS (ps_ret pe_at) ?_⟩
  exact h.go r ((q.post r).mono fun d hd v Z' H' x rd => hd _ _ _ (r.ext.trans x) rd)
def sRetN : ES := fun _ => .ret .none
theorem es_retN : Es X W (.Return none pos) sRetN := ⟨fun r q => toAtS ps_retN (q _ _ _ r.ext .non)⟩
def sExpr (F : EV) : ES := fun ρ => Out.of (F ρ) ρ fun _ => .nx ρ
theorem es_expr (h : Ev X W e F) (hs : swapsWith e none pos.line X.env = pure false := by rfl) : Es X W (.Expr e pos) (sExpr F) := by
  refine ⟨fun {Z0 H0 Z H σ ρ D} r q => toAtS (ps_expr pe_at hs) ?_⟩
  exact h.go r ((q.post r).mono fun d hd v Z' H' x rd => hd _ _ _ (r.step x) x.zz)
def sNever : ES := fun _ => .stuck
theorem es_never : Es X W st sNever := ⟨fun _ q => q.elim⟩
def sIf (T : ET) (S S' : ES) : ES := fun ρ => Out.of (T ρ) ρ fun b => if b = true then S ρ else S' ρ
theorem es_if {A B : List Stmt} (h : Et X W c T) (ha : Ess X W A S) (hb : Ess X W B S') : Es X W (.If c A B pos) (sIf T S S') := by
  refine ⟨fun {Z0 H0 Z H σ ρ D} r q => toAtS (ps_if pt_at pss_at pss_at) ?_⟩
  refine h.go r ((q.post r).mono fun b hb' Z' H' x => ?_)
  cases b with
  | true => exact ha.go (r.step x) (SPost.step hb' x.zz)
  | false => exact hb.go (r.step x) (SPost.step hb' x.zz)

/-! ### assignments -/
def sSet (i : Nat) (F : Rho → R Sl) : ES := fun ρ => Out.of (F ρ) ρ fun s => .nx (ρ.set i s)
theorem es_set (i : Nat) {x : Str} {p' : Pos} {F : Rho → R Sl} (h : Em X W e F) (hN : X.N.Nodup) (hi : X.N[i]? = some x := by rfl) (hx : Loc X.env.scope x := by first | exact Or.inl rfl | exact Or.inr rfl) (hs : swapsWith e (some (.Name x p')) pos.line X.env = pure false := by rfl)
    (hf : X.fn x = true ∨ X.env.scope.names.lookup x = some .local := by first | exact .inl rfl | exact .inr rfl) : Es X W (.Assign [.Name x p'] e pos) (sSet i F) := by
  refine ⟨fun {Z0 H0 Z H σ ρ D} r q => toAtS (ps_set hN hi hx pe_at hs hf) ?_⟩
  exact h.go r ((q.post r).mono fun s hd v Z' H' x n => hd _ _ _ (r.put x i n) x.zz)
def sAsg (F : EV) (A : EG) : ES := fun ρ => Out.of (F ρ) ρ fun d => Out.of (A d ρ) ρ .nx
theorem es_asg {tg : Expr} {A : EG} {js : List Nat} (h : Ev X W e F) (hg : Eg X tg A js) (hs : swapsWithSole [tg] e pos.line X.env = pure false := by rfl) (hw : swappedStores [tg] e X.env = pure none := by rfl)
    (h1 : (assignEach [tg] X.env).map (·.2) = [assign tg X.env] := by rfl) : Es X W (.Assign [tg] e pos) (sAsg F A) := by
  refine ⟨fun {Z0 H0 Z H σ ρ D} r q => toAtS (ps_asg pe_at pg_at hs hw h1) ?_⟩
  refine h.go r ((q.post r).mono fun d hd v Z' H' x rd => ?_)
  refine hg.go (r.step x) rd ?_
  have cl := hg.cl d ρ
  cases e1 : A d ρ with
  | ok ρ' => rw [e1] at hd; exact fun σ' o r' => hd _ _ _ r' x.zz
  | exc x => rw [e1] at cl; exact cl.elim
  | stuck => rw [e1] at hd; exact hd.elim
def sPar (i j : Nat) (F G : Rho → R Sl) : ES := fun ρ => Out.of (F ρ) ρ fun s => Out.of (G ρ) ρ fun t => .nx ((ρ.set i s).set j t)
theorem put2 {w : World} {K : PySem.W.Frag} {Z1 H1 Z2 H2 : Hp} (r : Rep w K Z0 H0 Z H σ ρ) (x1 : Ext Z H Z1 H1) (x2 : Ext Z1 H1 Z2 H2) {i j : Nat} (hij : i ≠ j) {v u : V} {s t : Sl} (q1 : SlNew w K H Z1 H1 v s) (q2 : SlNew w K H1 Z2 H2 u t) :
    Rep w K Z0 H0 Z2 H2 ((σ.set i (some v)).set j (some u)) ((ρ.set i s).set j t) := (r.put x1 i q1).put x2 j q2
theorem es_par (i j : Nat) {x y : Str} {px py pt : Pos} {kt k2 pt2} {F G : Rho → R Sl} (hc : X.calm = true) (hN : X.N.Nodup) (h1 : Em X W a F) (h2 : Em X W b G) (hi : X.N[i]? = some x := by rfl) (hj : X.N[j]? = some y := by rfl) (hij : i ≠ j := by decide)
    (hx : X.env.scope.names.lookup x = some .local := by rfl) (hy : X.env.scope.names.lookup y = some .local := by rfl)
    (hw : swappedStores [.Tuple [.Name x px, .Name y py] kt pt] (.Tuple [a, b] k2 pt2) X.env = pure (some [x, y]) := by rfl)
    (hs : swapsWithSole [.Tuple [.Name x px, .Name y py] kt pt] (.Tuple [a, b] k2 pt2) pos.line X.env = pure false := by rfl)
    (he : starEach [a, b] X.env = (false, eval a X.env) :: starEach [b] X.env := by rfl) (he2 : starEach [b] X.env = (false, eval b X.env) :: starEach [] X.env := by rfl) :
    Es X W (.Assign [.Tuple [.Name x px, .Name y py] kt pt] (.Tuple [a, b] k2 pt2) pos) (sPar i j F G) := by
  refine ⟨fun {Z0 H0 Z H σ ρ D} r q => toAtS (ps_par hc hN hi hj hij hx hy (pa_cons pe_at (pa_cons pe_at pa_nil he2) he) hw hs) ?_⟩
  refine h1.go r ((q.post r).mono fun s hd v Z1 H1 x1 n1 => ?_)
  refine h2.go (r.step x1) (((hd.post r).step x1).mono fun t ht u Z2 H2 x2 n2 => ?_)
  exact ⟨v, u, rfl, ht _ _ _ (put2 r x1 x2 hij n1 n2) (x1.zz.trans x2.zz)⟩

abbrev rIAdd : R2 := fun x y H Q => rI0 (fun i j => .int (i + j)) x y H Q ∨ (∃ i j, x = .str i ∧ y = .str j ∧ i.length + j.length ≤ sizeLine ∧ Q (.str (i ++ j)) H)
theorem od_iadd : OpD X rIAdd dIAdd := by
  intro Z H x y dx dy Q s rx ry h
  cases rx <;> cases ry <;> try exact h.elim
  · exact .inl ⟨_, _, rfl, rfl, h _ _ _ (Ext.refl s) (.int _)⟩
  · obtain ⟨hc, h⟩ := h.guard
    exact .inr ⟨_, _, rfl, rfl, fits_le hc, h _ _ _ (Ext.refl s) (.str _)⟩
theorem cl_iadd (x y : PQ.D) : (dIAdd x y).clean := by cases x <;> cases y <;> first | trivial | exact clean_guard _ _
theorem od_isub : OpD X (rI0 fun i j => .int (i - j)) dISub := by
  intro Z H x y dx dy Q s rx ry h
  cases rx <;> cases ry <;> try exact h.elim
  exact ⟨_, _, rfl, rfl, h _ _ _ (Ext.refl s) (.int _)⟩
theorem cl_isub (x y : PQ.D) : (dISub x y).clean := by cases x <;> cases y <;> trivial
theorem od_imul : OpD X (rI CMul fun i j => .int (i * j)) dIMul := by
  intro Z H x y dx dy Q s rx ry h
  cases rx <;> cases ry <;> try exact h.elim
  obtain ⟨hc, h⟩ := h.guard
  refine ⟨_, _, rfl, rfl, ?_, h _ _ _ (Ext.refl s) (.int _)⟩
  unfold mulOk at hc
  rw [Bool.or_eq_true, decide_eq_true_eq, decide_eq_true_eq] at hc
  unfold CMul
  omega
theorem cl_imul (x y : PQ.D) : (dIMul x y).clean := by cases x <;> cases y <;> first | trivial | exact clean_guard _ _
theorem od_ifdiv : OpD X (rI CDiv fun i j => .int (i / j)) dIFdiv := by
  intro Z H x y dx dy Q s rx ry h
  cases rx <;> cases ry <;> try exact h.elim
  obtain ⟨hc, h⟩ := h.guard
  unfold divOk at hc
  rw [Bool.and_eq_true, decide_eq_true_eq, decide_eq_true_eq] at hc
  exact ⟨_, _, rfl, rfl, hc, h _ _ _ (Ext.refl s) (.int _)⟩
theorem cl_ifdiv (x y : PQ.D) : (dIFdiv x y).clean := by cases x <;> cases y <;> first | trivial | exact clean_guard _ _
def sAug (i : Nat) (f : PQ.D → PQ.D → R PQ.D) (F : EV) : ES := fun ρ => Out.of (eVar i ρ) ρ fun x => Out.of (F ρ) ρ fun y => Out.of (f x y) ρ fun z => .nx (ρ.set i (.f z))
theorem es_aug (i : Nat) {x : Str} {p' : Pos} {op : Operator} {r2 : R2} {f : PQ.D → PQ.D → R PQ.D} (ho : OpR X (inplaceOp op) r2) (hd : OpD X r2 f) (cl : ∀ x y, (f x y).clean) (h : Ev X W e F) (hN : X.N.Nodup) (hi : X.N[i]? = some x := by rfl) (hx : Loc X.env.scope x := by first | exact Or.inl rfl | exact Or.inr rfl)
    (hf : X.fn x = true ∨ X.env.scope.names.lookup x = some .local := by first | exact .inl rfl | exact .inr rfl) : Es X W (.AugAssign (.Name x p') op e pos) (sAug i f F) := by
  refine ⟨fun {Z0 H0 Z H σ ρ D} r q => toAtS (ps_aug hN hi hx pe_at (ti := r2) (fun pins s σ H x y v u Q I r1 r2 h => ho pins s σ H x y v u Q I r1 r2 h) hf) ?_⟩
  unfold sAug eVar at q
  cases hr : ρ[i]? with
  | none => rw [hr] at q; exact q.elim
  | some s =>
    rw [hr] at q
    cases s with
    | f d =>
      obtain ⟨v, hv, rd⟩ := r.getF hr
      refine ⟨v, hv, ?_⟩
      have q : SPost X W Z0 H0 Z (Out.of (F ρ) ρ fun y => Out.of (f d y) ρ fun z => .nx (ρ.set i (.f z))) D := q
      refine h.go r ((q.post r).mono fun d2 q2 u Z1 H1 x1 r1 => ?_)
      refine hd Z1 H1 v u d d2 _ x1.zh (rd.mono x1.zz) r1 ?_
      have c := cl d d2
      cases e1 : f d d2 with
      | ok z => rw [e1] at q2; exact fun v3 Z3 H3 x3 r3 => q2 _ _ _ ((r.step (x1.trans x3)).setF i r3) (x1.zz.trans x3.zz)
      | exc x => rw [e1] at c; exact c.elim
      | stuck => rw [e1] at q2; exact q2.elim
    | u => exact q.elim
    | o d => exact q.elim
    | n d => exact q.elim
    | x a b c => exact q.elim
    | s d => exact q.elim
theorem es_iadd (i : Nat) {x : Str} {p' : Pos} (h : Ev X W e F) (hN : X.N.Nodup) (hi : X.N[i]? = some x := by rfl) (hx : Loc X.env.scope x := by first | exact Or.inl rfl | exact Or.inr rfl)
    (hf : X.fn x = true ∨ X.env.scope.names.lookup x = some .local := by first | exact .inl rfl | exact .inr rfl) : Es X W (.AugAssign (.Name x p') .Add e pos) (sAug i dIAdd F) := es_aug i (iop_add.or iop_add_str) od_iadd cl_iadd h hN hi hx hf
theorem es_isub (i : Nat) {x : Str} {p' : Pos} (h : Ev X W e F) (hN : X.N.Nodup) (hi : X.N[i]? = some x := by rfl) (hx : Loc X.env.scope x := by first | exact Or.inl rfl | exact Or.inr rfl)
    (hf : X.fn x = true ∨ X.env.scope.names.lookup x = some .local := by first | exact .inl rfl | exact .inr rfl) : Es X W (.AugAssign (.Name x p') .Sub e pos) (sAug i dISub F) := es_aug i iop_sub od_isub cl_isub h hN hi hx hf
theorem es_imul (i : Nat) {x : Str} {p' : Pos} (h : Ev X W e F) (hN : X.N.Nodup) (hi : X.N[i]? = some x := by rfl) (hx : Loc X.env.scope x := by first | exact Or.inl rfl | exact Or.inr rfl)
    (hf : X.fn x = true ∨ X.env.scope.names.lookup x = some .local := by first | exact .inl rfl | exact .inr rfl) : Es X W (.AugAssign (.Name x p') .Mult e pos) (sAug i dIMul F) := es_aug i iop_mul od_imul cl_imul h hN hi hx hf
theorem es_ifdiv (i : Nat) {x : Str} {p' : Pos} (h : Ev X W e F) (hN : X.N.Nodup) (hi : X.N[i]? = some x := by rfl) (hx : Loc X.env.scope x := by first | exact Or.inl rfl | exact Or.inr rfl)
    (hf : X.fn x = true ∨ X.env.scope.names.lookup x = some .local := by first | exact .inl rfl | exact .inr rfl) : Es X W (.AugAssign (.Name x p') .FloorDiv e pos) (sAug i dIFdiv F) := es_aug i iop_fdiv od_ifdiv cl_ifdiv h hN hi hx hf

/-! ### x.append(e) -/
def sApp (i : Nat) (F : EV) : ES := fun ρ => match ρ[i]? with
  | some (.o (.list ds)) => Out.of (F ρ) ρ fun d => Out.of (guardR (fits (ds.length + 1)) ()) ρ fun _ => .nx (ρ.set i (.o (.list (ds ++ [d]))))
  | _ => .stuck
theorem es_app (i : Nat) {x : Str} {ap cp p' pe : Pos} (h : Ev X W e F) (hi : X.N[i]? = some x := by rfl) (hv : Vis X.env.scope x := by first | exact Or.inl rfl | exact Or.inr (Or.inl rfl) | exact Or.inr (Or.inr rfl)) (hd : (x == ("__debug__" : Str)) = false := by decide)
    (hcd : (x == ("__classdict__" : Str)) = false := by decide) (hs : swapsWith (.Call (.Attribute (.Name x p') "append" ap) [e] [] cp) none pe.line X.env = pure false := by rfl)
    (hbase : attributeBase (.Name x p') "append" X.env (eval (.Name x p') X.env) = eval (.Name x p') X.env := by rfl)
    (hfew : ((backTo cp (starEach (e :: []) X.env)).all (fun x => !x.1) && (backToKw cp (keywordEach [] X.env)).all (fun x => x.1.isSome)
      && decide ((e :: ([] : List Expr)).length + ([] : List Keyword).length + (if ([] : List Keyword).isEmpty then 0 else 1) < 30)) = true := by rfl)
    (hline : (ap.endLine == cp.line) = true := by rfl) (hs' : starEach (e :: []) X.env = (false, eval e X.env) :: starEach [] X.env := by rfl) (hplain : (backTo cp (starEach [] X.env)).any (·.1) = false := by rfl) :
    Es X W (.Expr (.Call (.Attribute (.Name x p') "append" ap) [e] [] cp) pe) (sApp i F) := by
  refine ⟨fun {Z0 H0 Z H σ ρ D} r q => toAtS (ps_expr (pe_bm PySem.F.plainAttrs_list PySem.F.slot_list_append PySem.F.type_list_append mt_append (pe_var hi hv hd hcd) (pa_cons pe_at pa_nil hs') hbase hfew hline hs' hplain) hs) ?_⟩
  unfold sApp at q
  split at q
  · rename_i ds hr
    obtain ⟨l, hl, ho, h0⟩ := r.getO hr
    cases ho with
    | lst hz hH rds =>
      rename_i xs
      refine ⟨_, hl, .inl ⟨rfl, xs, .inl (.inl hH)⟩, ?_⟩
      refine h.go r ((q.post r).mono fun d q2 u Z1 H1 x1 r1 => ?_)
      unfold guardR at q2
      split at q2
      · rename_i hf
        have hf := fits_le hf
        have zl : Z1 l = none := x1.nw l _ hz hH
        refine ⟨l, xs, u, rfl, rfl, x1.hh _ _ hH, by rw [rds.length]; exact hf, ?_⟩
        refine q2 _ _ _ (Rep.mutate (r.step x1) hr hl h0 zl ?_) x1.zz
        exact .lst zl upd_same ((rds.mono x1.zz).append (.cons r1 .nil))
      · exact q2.elim
  · exact q.elim

/-! ### ghosts -/
/-- the slots ks are forgotten behind the statement -/
def oKill (ks : List Nat) : Out → Out
  | .nx ρ => .nx (wipeR ρ ks)
  | o => o
theorem Rep.forgets (r : Rep X.w X.K Z0 H0 Z H σ ρ) : ∀ ks : List Nat, Rep X.w X.K Z0 H0 Z H σ (wipeR ρ ks)
  | [] => r
  | k :: ks => (Rep.forgets r ks).forget k
def sKill (ks : List Nat) (S : ES) : ES := fun ρ => oKill ks (S ρ)
theorem es_kill (ks : List Nat) (h : Es X W st S) : Es X W st (sKill ks S) := by
  refine ⟨fun {Z0 H0 Z H σ ρ D} r q => h.go r ?_⟩
  unfold sKill at q
  cases e : S ρ with
  | nx ρ' => rw [e] at q; exact fun σ' Z' H' r' s' => q _ _ _ (r'.forgets ks) s'
  | ret d => rw [e] at q; exact q
  | bk ρ' => rw [e] at q; exact q
  | ct ρ' => rw [e] at q; exact q
  | exc x ρ' => rw [e] at q; exact q
  | stuck => rw [e] at q; exact q
/-- slot i's own object is frozen ahead of the statement -/
def frz (i : Nat) (ρ : Rho) : Rho := match ρ[i]? with
  | some (.o d) => ρ.set i (.f d)
  | _ => ρ
theorem Rep.frz (r : Rep X.w X.K Z0 H0 Z H σ ρ) (i : Nat) : ∃ Z', Rep X.w X.K Z0 H0 Z' H σ (PQ.frz i ρ) ∧ Same Z Z' := by
  unfold PQ.frz
  split
  · rename_i d h
    exact r.freeze h
  · exact ⟨Z, r, Same.refl _⟩
def sFrz (i : Nat) (S : ES) : ES := fun ρ => S (frz i ρ)
theorem es_frz (i : Nat) (h : Es X W st S) : Es X W st (sFrz i S) := by
  refine ⟨fun {Z0 H0 Z H σ ρ D} r q => ?_⟩
  obtain ⟨Z', r', s⟩ := r.frz i
  exact h.go r' (SPost.step q s)
/-- what is left of a longer frozen part when a is taken out: the tuples -/
theorem unfreeze {Z H Z' H' : Hp} {a : Addr} {o : HO} (s : Same Z H) (hz : Z a = none) (ha : H a = some o) (no : tupsOf (upd Z a o) a = none) (x : Ext (upd Z a o) H Z' H') : ∃ Z'', Ext Z H Z'' H' ∧ Same (tupsOf Z') Z'' ∧ Z'' a = none ∧ ∀ b, Z b = none → Z' b = none → Z'' b = none := by
  refine ⟨fun b => match Z b with
    | some u => some u
    | none => tupsOf Z' b, ⟨x.hh, fun b u e => by simp only [e], fun b u e => ?_, fun b u h1 h2 => ?_⟩, fun b u e => ?_, ?_, fun b h1 h2 => by simp only [h1]; unfold tupsOf; rw [h2]⟩
  · cases hb : Z b with
    | some u' =>
      simp only [hb] at e
      cases e
      exact x.hh b _ (s b _ hb)
    | none => simp only [hb] at e; exact x.zh b u (tupsOf_le _ _ _ e)
  · simp only [h1]
    by_cases hb : b = a
    · subst hb
      have e := x.zz b o upd_same
      unfold tupsOf at no ⊢
      rw [upd_same] at no
      rw [e]
      exact no
    · have := x.nw b u (by rw [upd_ne hb]; exact h1) h2
      unfold tupsOf
      rw [this]
  · cases hb : Z b with
    | some u' =>
      have e1 : Z' b = some u' := x.zz b u' (by rw [upd_ne (fun z => by rw [z, hz] at hb; cases hb)]; exact hb)
      have e2 := tupsOf_le _ _ _ e
      rw [e1] at e2
      cases e2
      simp only [hb]
    | none => simp only [hb]; exact e
  · simp only [hz]
    have e := x.zz a o upd_same
    unfold tupsOf at no ⊢
    rw [upd_same] at no
    rw [e]
    exact no
theorem Own.noTup {w : World} {K : PySem.W.Frag} {a : Addr} {d : PQ.D} (h : Own w K Z H a d) : ∃ o, H a = some o ∧ tupsOf (upd Z a o) a = none := by
  cases h with
  | lst h1 h2 _ => exact ⟨_, h2, by unfold tupsOf; rw [upd_same]⟩
  | dct h1 h2 _ _ _ _ _ _ => exact ⟨_, h2, by unfold tupsOf; rw [upd_same]⟩
/-- slot i's own object is read within the expression -/
def excFlat (x : Exc) : Bool := x.fld.isEmpty
def borR {α : Type} (ok : α → Bool) : R α → R α
  | .ok d => guardR (ok d) d
  | .exc x => if excFlat x = true then .exc x else .stuck
  | .stuck => .stuck
def borRho (i : Nat) (ρ : Rho) : Option Rho := match ρ[i]? with
  | some (.o d) => some (ρ.set i (.f d))
  | _ => none
def eBor (i : Nat) (F : EV) : EV := fun ρ => match borRho i ρ with
  | some ρ' => borR noLst (F ρ')
  | none => F ρ
theorem Rep.bor {i : Nat} {ρ' : Rho} (r : Rep X.w X.K Z0 H0 Z H σ ρ) (h : borRho i ρ = some ρ') : ∃ a o, Rep X.w X.K Z0 H0 (upd Z a o) H σ ρ' ∧ Z a = none ∧ H a = some o ∧ tupsOf (upd Z a o) a = none := by
  unfold borRho at h
  split at h
  · rename_i d hr
    cases h
    obtain ⟨a, h1, q, h0⟩ := r.getO hr
    obtain ⟨o, ho, hno⟩ := q.noTup
    obtain ⟨o', ho', q', s1, s2⟩ := q.freeze r.zh
    rw [ho] at ho'; cases ho'
    refine ⟨a, o, ?_, q.zno, ho, hno⟩
    have h := r.one (Z' := upd Z a o) (H' := H) i (some (.ref a)) (.f d) ⟨r.ext.hh, r.ext.zz.trans s1, s2, fun b u hb1 hb2 => ?_⟩ s1 (fun j c s b hj e1 e2 ow => ?_) ⟨_, rfl, q'⟩ (fun _ _ _ _ _ _ _ _ o => o)
    · have e := set_self σ i none
      rw [h1] at e
      have e : σ.set i (some (.ref a)) = σ := e
      rwa [e] at h
    · rw [upd_ne (fun z => by rw [z, h0] at hb2; cases hb2)]
      exact r.ext.nw b u hb1 hb2
    · refine ⟨?_, fun _ e => e⟩
      have hb : b ≠ a := fun hb => by
        subst hb
        exact r.dj j i c _ s _ b hj e1 h1 e2 hr ow rfl
      rw [upd_ne hb]
      exact (r.keepsO j c s b e1 e2 ow).1
  · cases h
theorem bor_x {a : Addr} {o : HO} {x : Exc} (s : Same Z H) (hz : Z a = none) (ha : H a = some o) (no : tupsOf (upd Z a o) a = none) (f : excFlat x = true) (h : XPost X W Z H σ x) : XPost X W (upd Z a o) H σ x := by
  intro cls dx Z' H' e rx
  obtain ⟨Z'', x2, s2, za, zo⟩ := unfreeze s hz ha no e
  cases rx with
  | bare h1 => exact h _ _ Z'' H' x2 (.bare h1)
  | fld _ _ _ => simp [excFlat] at f
theorem borR_post {α : Type} {ok : α → Bool} {r : R α} {P P' : α → Prop} {a : Addr} {o : HO} (s : Same Z H) (hz : Z a = none) (ha : H a = some o) (no : tupsOf (upd Z a o) a = none) (h : Post X W Z H σ (borR ok r) P) (hp : ∀ d, ok d = true → P d → P' d) : Post X W (upd Z a o) H σ r P' := by
  cases r with
  | ok d =>
    have h : Post X W Z H σ (guardR (ok d) d) P := h
    obtain ⟨hc, h⟩ := h.guard
    exact hp d hc h
  | exc x =>
    have h : Post X W Z H σ (if excFlat x = true then R.exc x else R.stuck) P := h
    split at h
    · exact bor_x s hz ha no (by assumption) h
    · exact h.elim
  | stuck => exact h.elim
theorem ev_bor (i : Nat) (h : Ev X W e F) : Ev X W e (eBor i F) := by
  refine ⟨fun {Z0 H0 Z H σ ρ Q} r q => ?_⟩
  unfold eBor at q
  cases hb : borRho i ρ with
  | none => rw [hb] at q; exact h.go r q
  | some ρ' =>
    rw [hb] at q
    obtain ⟨a, o, r', hz, ha, no⟩ := r.bor hb
    refine h.go r' (borR_post r.zh hz ha no q fun d hd q v Z' H' x rd => ?_)
    obtain ⟨Z'', x2, s2, za, zo⟩ := unfreeze r.zh hz ha no x
    exact q v Z'' H' x2 ((rd.tups hd).mono s2)
def tBor (i : Nat) (T : ET) : ET := fun ρ => match borRho i ρ with
  | some ρ' => borR (fun _ => true) (T ρ')
  | none => T ρ
theorem et_bor (i : Nat) (h : Et X W e T) : Et X W e (tBor i T) := by
  refine ⟨fun {Z0 H0 Z H σ ρ Q} r q => ?_⟩
  unfold tBor at q
  cases hb : borRho i ρ with
  | none => rw [hb] at q; exact h.go r q
  | some ρ' =>
    rw [hb] at q
    obtain ⟨a, o, r', hz, ha, no⟩ := r.bor hb
    refine h.go r' (borR_post r.zh hz ha no q fun d hd q Z' H' x => ?_)
    obtain ⟨Z'', x2, s2, za, zo⟩ := unfreeze r.zh hz ha no x
    exact q Z'' H' x2
/-- a new list whose items are tuples all the way -/
def flatO : PQ.D → Bool
  | .list ds => noLsts ds
  | .dict kvs => noLsts (kvs.map (·.1)) && noLsts (kvs.map (·.2))
  | _ => false
def oBor (i : Nat) (F : EV) : EV := fun ρ => match borRho i ρ with
  | some ρ' => borR flatO (F ρ')
  | none => F ρ
theorem eo_bor (i : Nat) (h : Eo X W e F) : Eo X W e (oBor i F) := by
  refine ⟨fun {Z0 H0 Z H σ ρ Q} r q => ?_⟩
  unfold oBor at q
  cases hb : borRho i ρ with
  | none => rw [hb] at q; exact h.go r q
  | some ρ' =>
    rw [hb] at q
    obtain ⟨a, o, r', hz, ha, no⟩ := r.bor hb
    refine h.go r' (borR_post r.zh hz ha no q fun d hd q b Z' H' x hn ho => ?_)
    obtain ⟨Z'', x2, s2, za, zo⟩ := unfreeze r.zh hz ha no x
    have zb : Z'' b = none := zo b (zfree r.zh hn) ho.zno
    refine q b Z'' H' x2 hn ?_
    cases ho with
    | lst h1 h2 h3 => exact .lst zb h2 ((h3.tups (by simpa [flatO] using hd)).mono s2)
    | dct h1 h2 h3 h4 h5 h6 h7 r1 =>
      unfold flatO at hd
      rw [Bool.and_eq_true] at hd
      exact .dct zb h2 h3 h4 h5 h6 h7 ((r1.tups hd.1 hd.2).mono s2)
end
end PQ

/-! PQ.9: loops, calls, raises, defs -/
namespace PQ
open PySem PySem.Spec PyProof.Rows L2
open PySem.W (alike alikeAll dataLt rcLt_alike)

/-! ### for -/
def forL (A : EG) (B : ES) (ks : List Nat) : List D → Rho → Out
  | [], ρ => .nx ρ
  | d :: ds, ρ => match A d ρ with
    | .ok ρ1 => match B ρ1 with
      | .nx ρ2 => forL A B ks ds (wipeR ρ2 ks)
      | .ct ρ2 => forL A B ks ds (wipeR ρ2 ks)
      | .bk ρ2 => .nx (wipeR ρ2 ks)
      | o => o
    | _ => .stuck
def sFor (Fi : EI) (A : EG) (B : ES) (ks : List Nat) : ES := fun ρ => Out.of (Fi ρ) ρ fun ds => forL A B ks ds (wipeR ρ ks)
/-- while, at most n turns -/
def whN (T : ET) (B : ES) (ks : List Nat) : Nat → Rho → Out
  | 0, _ => .stuck
  | n + 1, ρ => Out.of (T ρ) ρ fun b => if b = true then
      match B ρ with
      | .nx ρ2 => whN T B ks n (wipeR ρ2 ks)
      | .ct ρ2 => whN T B ks n (wipeR ρ2 ks)
      | .bk ρ2 => .nx (wipeR ρ2 ks)
      | o => o
    else .nx ρ
def fuelW : Nat := 1000000000
def sWhile (T : ET) (B : ES) (ks : List Nat) : ES := fun ρ => whN T B ks fuelW (wipeR ρ ks)
theorem whN_mono {T : ET} {B : ES} {ks : List Nat} : ∀ {n : Nat} {ρ : Rho} {o : Out}, whN T B ks n ρ = o → o ≠ .stuck → ∀ m, n ≤ m → whN T B ks m ρ = o
  | 0, ρ, o, h, ho, m, _ => absurd h.symm ho
  | n + 1, ρ, o, h, ho, 0, hm => absurd hm (by omega)
  | n + 1, ρ, o, h, ho, m + 1, hm => by
    rw [whN] at h ⊢
    cases e : T ρ with
    | exc x => rw [e] at h; exact h
    | stuck => rw [e] at h; exact h
    | ok b =>
      rw [e] at h
      cases b with
      | false => exact h
      | true =>
        have h : (match B ρ with
          | .nx ρ2 => whN T B ks n (wipeR ρ2 ks)
          | .ct ρ2 => whN T B ks n (wipeR ρ2 ks)
          | .bk ρ2 => .nx (wipeR ρ2 ks)
          | o => o) = o := h
        show (match B ρ with
          | .nx ρ2 => whN T B ks m (wipeR ρ2 ks)
          | .ct ρ2 => whN T B ks m (wipeR ρ2 ks)
          | .bk ρ2 => .nx (wipeR ρ2 ks)
          | o => o) = o
        cases e2 : B ρ with
        | nx ρ2 => rw [e2] at h; exact whN_mono h ho m (by omega)
        | ct ρ2 => rw [e2] at h; exact whN_mono h ho m (by omega)
        | bk ρ2 => rw [e2] at h; exact h
        | ret d => rw [e2] at h; exact h
        | exc x ρ2 => rw [e2] at h; exact h
        | stuck => rw [e2] at h; exact h
theorem sWhile_of {T : ET} {B : ES} {ks : List Nat} {n : Nat} {ρ : Rho} {o : Out} (h : whN T B ks n (wipeR ρ ks) = o) (ho : o ≠ .stuck) (hn : n ≤ 1000000000) : sWhile T B ks ρ = o := whN_mono h ho _ hn

section
variable {X : Cx} {W : WX} {Z0 H0 Z H : Hp} {σ : St} {ρ : Rho} {En : Ends}
variable {tg iter c : Expr} {body : List Stmt} {pos p : Pos} {Fi : EI} {A : EG} {js ks : List Nat} {S : ES} {T : ET}
theorem es_for (ks : List Nat) (hp : PassesOwn (model X.prog X.w) X.A X.env X.xe) (hc : X.calm = true) (hi : Ei X W tg iter Fi) (hg : Eg X tg A js) (hb : Ess X W body S) (hs : ∀ x, foldedSetIterable iter X.env x = pure x := by intro _; rfl) :
    Es X W (.For tg iter body [] pos) (sFor Fi A S ks) := by
  refine ⟨fun {Z0 H0 Z H σ ρ En} r q => toAtS (ps_for hp hc pi_at pg_at pss_at hs) ?_⟩
  refine hi.go r ((q.post r).mono fun ds q J Z1 H1 x1 io => ?_)
  refine ⟨fun i m σi Hi => m = ds.length - i ∧ i ≤ ds.length ∧ ∃ Zi ρi, Rep X.w X.K Z0 H0 Zi Hi σi ρi ∧ Same Z1 Zi ∧ SPost X W Z0 H0 Zi (forL A S ks (ds.drop i) ρi) En,
    ⟨ds.length, by simp, Nat.zero_le _, Z1, wipeR ρ ks, (r.step x1).forgets ks, Same.refl _, SPost.step q x1.zz⟩, ?_⟩
  rintro i m σi Hi ⟨rfl, hle, Zi, ρi, ri, si, qi⟩
  by_cases hlt : i < ds.length
  · have hd : ds[i]? = some ds[i] := by simp [hlt]
    rw [List.drop_eq_getElem_cons hlt] at qi
    generalize ds[i] = d at hd qi
    refine .inr ⟨io.go si ri.zh hd, fun σ' H' => i + 1 ≤ ds.length ∧ ∃ Zi ρi, Rep X.w X.K Z0 H0 Zi H' σ' ρi ∧ Same Z1 Zi ∧ SPost X W Z0 H0 Zi (forL A S ks (ds.drop (i + 1)) ρi) En,
      fun σ' H' h => ⟨ds.length - (i + 1), by omega, rfl, h⟩, fun x H' hy => ?_⟩
    obtain ⟨Z2, x2, rx⟩ := io.yld si ri.zh hd hy
    rw [forL] at qi
    refine hg.go (ri.step x2) rx ?_
    have cl := hg.cl d ρi
    cases e1 : A d ρi with
    | exc x => rw [e1] at cl; exact cl.elim
    | stuck => rw [e1] at qi; exact qi.elim
    | ok ρ1 =>
      rw [e1] at qi
      intro σ2 o2 r2
      refine hb.go r2 ?_
      have s12 := si.trans x2.zz
      have qi : SPost X W Z0 H0 Zi (match S ρ1 with
        | .nx ρ2 => forL A S ks (ds.drop (i + 1)) (wipeR ρ2 ks)
        | .ct ρ2 => forL A S ks (ds.drop (i + 1)) (wipeR ρ2 ks)
        | .bk ρ2 => .nx (wipeR ρ2 ks)
        | o => o) En := qi
      cases e2 : S ρ1 with
      | nx ρ2 =>
        rw [e2] at qi
        exact fun σ3 Z3 H3 r3 s3 => ⟨hlt, Z3, _, r3.forgets ks, s12.trans s3, SPost.step qi (x2.zz.trans s3)⟩
      | ct ρ2 =>
        rw [e2] at qi
        exact fun σ3 Z3 H3 r3 s3 => ⟨hlt, Z3, _, r3.forgets ks, s12.trans s3, SPost.step qi (x2.zz.trans s3)⟩
      | bk ρ2 =>
        rw [e2] at qi
        exact fun σ3 Z3 H3 r3 s3 => qi _ _ _ (r3.forgets ks) (x2.zz.trans s3)
      | ret d => rw [e2] at qi; exact qi
      | exc x ρ2 => rw [e2] at qi; exact fun cls dx σ3 Z3 H3 r3 s3 rx => (show SPost X W Z0 H0 Zi (.exc x ρ2) En from qi) cls dx σ3 Z3 H3 r3 (x2.zz.trans s3) rx
      | stuck => rw [e2] at qi; exact qi.elim
  · have ei : i = ds.length := by omega
    subst ei
    rw [List.drop_length] at qi
    exact .inl ⟨io.stop si ri.zh, qi _ _ _ ri (Same.refl _)⟩
theorem es_while (ks : List Nat) (hp : PassesOwn (model X.prog X.w) X.A X.env X.xe) (ht : Et X W c T) (hb : Ess X W body S) : Es X W (.While c body [] pos) (sWhile T S ks) := by
  refine ⟨fun {Z0 H0 Z H σ ρ En} r q => toAtS (ps_while hp pt_at pss_at) ?_⟩
  refine ⟨fun m σi Hi => ∃ Zi ρi, Rep X.w X.K Z0 H0 Zi Hi σi ρi ∧ SPost X W Z0 H0 Zi (whN T S ks m ρi) En, ⟨_, Z, _, r.forgets ks, q⟩, ?_⟩
  rintro m σi Hi ⟨Zi, ρi, ri, qi⟩
  cases m with
  | zero => exact qi.elim
  | succ m =>
    rw [whN] at qi
    refine ht.go ri ((qi.post ri).mono fun b qi Z1 H1 x1 => ?_)
    cases b with
    | false =>
      rw [if_neg Bool.false_ne_true] at qi
      exact qi _ _ _ (ri.step x1) x1.zz
    | true =>
      rw [if_pos rfl] at qi
      refine ⟨fun σ' H' => ∃ Zi ρi, Rep X.w X.K Z0 H0 Zi H' σ' ρi ∧ SPost X W Z0 H0 Zi (whN T S ks m ρi) En, fun σ' H' h => ⟨m, Nat.lt_succ_self m, h⟩, ?_⟩
      refine hb.go (ri.step x1) ?_
      have qi : SPost X W Z0 H0 Zi (match S ρi with
        | .nx ρ2 => whN T S ks m (wipeR ρ2 ks)
        | .ct ρ2 => whN T S ks m (wipeR ρ2 ks)
        | .bk ρ2 => .nx (wipeR ρ2 ks)
        | o => o) En := qi
      cases e2 : S ρi with
      | nx ρ2 =>
        rw [e2] at qi
        exact fun σ3 Z3 H3 r3 s3 => ⟨Z3, _, r3.forgets ks, SPost.step qi (x1.zz.trans s3)⟩
      | ct ρ2 =>
        rw [e2] at qi
        exact fun σ3 Z3 H3 r3 s3 => ⟨Z3, _, r3.forgets ks, SPost.step qi (x1.zz.trans s3)⟩
      | bk ρ2 =>
        rw [e2] at qi
        exact fun σ3 Z3 H3 r3 s3 => qi _ _ _ (r3.forgets ks) (x1.zz.trans s3)
      | ret d => rw [e2] at qi; exact qi
      | exc x ρ2 => rw [e2] at qi; exact fun cls dx σ3 Z3 H3 r3 s3 rx => (show SPost X W Z0 H0 Zi (.exc x ρ2) En from qi) cls dx σ3 Z3 H3 r3 (x1.zz.trans s3) rx
      | stuck => rw [e2] at qi; exact qi.elim

/-! ### name = [.. for ..] on one line -/
theorem es_setLc {i : Nat} {y : Str} {py : Pos} {elt : Expr} {ifs : List Expr} {scope : Scope} {own : List (Str × Nat)} {spos : Pos} {F : EV} (hc : X.calm = true) (hN : X.N.Nodup) (hy : X.N[i]? = some y) (hyl : X.env.scope.names.lookup y = some .local)
    (hsw : swapsWith (.ListComp elt [⟨tg, iter, ifs, 0⟩] scope pos) (some (.Name y py)) spos.line X.env = pure true) (hi : Ei X W tg iter Fi) (ok : BlkOk X.N X.env.scope scope own)
    (hg : ∀ (s : Shared) (H : Hp) (C : Addr) (cl : List (Str × Addr)) (fp : List Addr), Eg (X.blk s H scope (compEnvC scope cl C X.env) fp) tg A js) (hjs : ∀ j ∈ js, j ∈ own.map (·.2))
    (ht : ∀ (s : Shared) (H : Hp) (C : Addr) (cl : List (Str × Addr)) (fp : List Addr), Ets (X.blk s H scope (compEnvC scope cl C X.env) fp) ifs T)
    (he : ∀ (s : Shared) (H : Hp) (C : Addr) (cl : List (Str × Addr)) (fp : List Addr), Ev (X.blk s H scope (compEnvC scope cl C X.env) fp) WF elt F) (hs : ∀ x, foldedSetIterable iter X.env x = pure x := by intro _; rfl) :
    Es X W (.Assign [.Name y py] (.ListComp elt [⟨tg, iter, ifs, 0⟩] scope pos) spos) (sSet i (mO (eComp Fi A T F (own.map (·.2))))) := by
  refine ⟨fun {Z0 H0 Z H σ ρ En} r q => toAtS (ps_setLc (g := fun v σ H Q => ∀ s H0 C cl fp, PGat (X.blk s H0 scope (compEnvC scope cl C X.env) fp) tg v σ H Q)
    (tt := fun σ H Q => ∀ s H0 C cl fp, PTsat (X.blk s H0 scope (compEnvC scope cl C X.env) fp) ifs σ H Q)
    (te := fun σ H Q => ∀ s H0 C cl fp, PEat (X.blk s H0 scope (compEnvC scope cl C X.env) fp) elt σ H Q) hc hN hy hyl hsw pi_at ok ?_ ?_ ?_ hs) ?_⟩
  · exact fun s H C cl fp => ⟨fun pins s' σ H' v u Q I rv h => (h s H C cl fp) pins s' u I rv⟩
  · exact fun s H C cl fp => ⟨fun pins s' σ H' Q I h => pts_at.run pins s' σ H' Q I (h s H C cl fp)⟩
  · exact fun s H C cl fp => ⟨fun pins s' σ H' Q I h => (h s H C cl fp) pins s' I⟩
  · refine lc_read hi hg hjs ht he r (Q := fun x H1 => gName i x σ H1 En.nx) ?_
    have q := q.post r
    refine q.bind.mono fun d hd a Z' H' x hn ho => ?_
    exact hd _ _ _ (r.put x i ⟨a, rfl, hn, ho⟩) x.zz

/-! ### what a def promises -/
/-- arguments that bear ds; an end that bears F ds -/
def spF (w : World) (K : PySem.W.Frag) (mg : Str → Option Value) (n : Nat) (F : List D → R D) : Sp := fun vs H Q E => ∃ Z ds, Same Z H ∧ RDs w K Z vs ds ∧ vs.length = n ∧
  match F ds with
  | .ok d => ∀ v Z' H', Ext Z H Z' H' → RD w K Z' v d → Q v H'
  | .exc x => ∀ cls dx Z' H', Ext Z H Z' H' → RX w K mg Z' x cls dx → E cls dx H'
  | .stuck => False
/-- the end of a body -/
def Out.res : Out → R D
  | .nx _ => .ok .none
  | .ret d => .ok d
  | .exc x _ => .exc x
  | _ => .stuck
def rho0 (N : List Str) (ds : List D) : Rho := ds.map .f ++ List.replicate (N.length - ds.length) .u
def runD (n : Nat) (S : ES) (ds : List D) : R D := (S (ds.map .f ++ List.replicate (n - ds.length) .u)).res
theorem rds_slots {w : World} {K : PySem.W.Frag} : ∀ {vs : List V} {ds : List D}, RDs w K Z vs ds → ∀ (m : Nat) (i : Nat) (c : Option V) (s : Sl), (vs.map some ++ List.replicate m none)[i]? = some c → (ds.map Sl.f ++ List.replicate m .u)[i]? = some s → SlRep w K H0 Z H c s
  | _, _, .nil, m, i, c, s, h1, h2 => by
    simp only [List.map_nil, List.nil_append] at h1 h2
    have := List.mem_of_getElem? h2
    rw [List.mem_replicate] at this
    rw [this.2]; trivial
  | _, _, .cons rv rt, m, 0, c, s, h1, h2 => by
    simp at h1 h2
    subst h1 h2
    exact ⟨_, rfl, rv⟩
  | _, _, .cons rv rt, m, i + 1, c, s, h1, h2 => rds_slots rt m i c s (by simpa using h1) (by simpa using h2)
theorem rds_noOwn {H : Hp} {c : Option V} {b : Addr} {t : Sl} : ∀ (ds : List D) (m i : Nat), (ds.map Sl.f ++ List.replicate m .u)[i]? = some t → ¬ OwnsA H c t b
  | [], m, i, h => by
    have := List.mem_of_getElem? h
    simp at this
    rw [this.2]
    exact fun o => o
  | e :: ds, m, 0, h => by
    simp at h
    rw [← h]
    exact fun o => o
  | e :: ds, m, i + 1, h => rds_noOwn ds m i (by simpa using h)
theorem rep_start {w : World} {K : PySem.W.Frag} {vs : List V} {ds : List D} (N : List Str) (s : Same Z H) (r : RDs w K Z vs ds) : Rep w K Z H Z H (L2.start N vs) (ds.map Sl.f ++ List.replicate (N.length - ds.length) .u) := by
  unfold L2.start
  rw [r.length]
  refine ⟨Ext.refl s, by simp [r.length], fun i c s h1 h2 => rds_slots r _ i c s h1 h2, fun i j c e s t b _ _ _ h1 _ o _ => rds_noOwn ds _ i h1 o⟩
section
variable {P : Program} {w : World} {K : PySem.W.Frag} {mg : Str → Option Value} {base : Heap}
/-- the wish of a def's body -/
abbrev WD (E : XK) : WX := fun cls d _ H => E cls d H
theorem fn_ok {x qual : Str} {st : Stmt} {f : Addr} {fd : FuncData} {N ps : List Str} {k : Nat} {S : ES} (F : Fun K x qual st f fd) (Sc : FnScope N ps (defScope st))
    (hbody : ∀ (cdv : Value) (A : Around) (outer : List Env) (s : Shared) (H : Hp) (E : XK), Room k (A.deeper (envOfC qual (defScope st) s.heap.objs.size f cdv)) →
      Ess (cxOf (L2.CX P w) P w K mg base N qual (defScope st) f cdv A outer s H E) (WD E) (defBody st) S) :
    FnOk P w K mg base (L2.CX P w) (k + 1) f fd ps (spF w K mg ps.length (runD N.length S)) := by
  refine F.okX Sc (fun vs H Q E h => ?_) fun cdv A outer s H vs Q E hr h => ?_
  · obtain ⟨Z, ds, _, _, h, _⟩ := h; exact h
  · obtain ⟨Z, ds, sz, rd, hl, h⟩ := h
    refine ⟨_, pss_at, (hbody cdv A outer s H E hr).go (rep_start (w := w) (K := K) N sz rd) ?_⟩
    unfold runD at h
    cases e : S (ds.map Sl.f ++ List.replicate (N.length - ds.length) .u) with
    | nx ρ => rw [e] at h; exact fun σ' Z' H' r' _ => h _ _ _ r'.ext .non
    | ret d => rw [e] at h; exact fun v Z' H' x rd => h _ _ _ x rd
    | exc x ρ => rw [e] at h; exact fun cls dx σ' Z' H' r' _ rx => h _ _ _ _ r'.ext rx
    | bk ρ => rw [e] at h; exact h.elim
    | ct ρ => rw [e] at h; exact h.elim
    | stuck => rw [e] at h; exact h.elim
/-- the context of a body: what the rules ask -/
theorem tk_def {N : List Str} {qual : Str} {scope : Scope} {f : Addr} {cd : Value} {A : Around} {outer : List Env} {s : Shared} {H : Hp} {E : XK} :
    Takes (cxOf (L2.CX P w) P w K mg base N qual scope f cd A outer s H E) (WD E) := takes_of rfl rfl rfl rfl
theorem po_def {N : List Str} {qual : Str} {scope : Scope} {f : Addr} {cd : Value} {A : Around} {outer : List Env} {s : Shared} {H : Hp} {E : XK} :
    PassesOwn (model P w) (A.deeper (envOfC qual scope s.heap.objs.size f cd)) (envOfC qual scope s.heap.objs.size f cd) (cxOf (L2.CX P w) P w K mg base N qual scope f cd A outer s H E).xe := PassesOwn.leaving
end
theorem hu_room {A : Around} {k : Nat} (h : Room k A) : A.units + 100 < cLine := by
  have := h.un
  omega

/-! ### calls -/
def eCall (F : List D → R D) (Fs : EA) : EV := fun ρ => Fs ρ >>= F
variable {a e : Expr} {es : List Expr} {Fs : EA}
theorem ev_call {k n : Nat} {f : Addr} {fd : FuncData} {ps : List Str} {F : List D → R D} {x : Str} (G : FnOk X.prog X.w X.K X.mg X.base (L2.CX X.prog X.w) k f fd ps (spF X.w X.K X.mg n F)) (hn : (e :: es).length = n) (tk : Takes X W) (hr : Room k X.A) (hm : X.mg x = some (.ref f))
    (hk : PySem.W.keepIn X.K (.ref f) = true) (hb : Binds X.K fd ps []) (ha : Ea X W (e :: es) Fs) (hg : Gl X x := by rfl) (hdb : (x == ("__debug__" : Str)) = false := by decide) :
    Ev X W (.Call (.Name x p) (e :: es) [] pos) (eCall F Fs) := by
  refine ⟨fun {Z0 H0 Z H σ ρ Q} r q => toAt (pe_callS G hr hg hm hk hb (fun σ => passAt tk σ) pa_at hdb (ha.se _ _ rfl) (ha.plt _ _ rfl _)) ?_⟩
  refine ha.go r (q.bind.eq.mono fun ds hd vs Z1 H1 x1 r1 => ?_)
  obtain ⟨hd0, hd⟩ := hd
  refine ⟨Z1, ds, x1.zh, r1, by rw [r1.length, ha.len ρ ds hd0, hn], ?_⟩
  cases e1 : F ds with
  | ok d => rw [e1] at hd; exact fun v Z' H' x rd => hd _ _ _ (x1.trans x) rd
  | exc x => rw [e1] at hd; exact fun cls dx Z' H' x rx => hd _ _ _ _ (x1.trans x) rx
  | stuck => rw [e1] at hd; exact hd.elim

/-! ### raise X('..'), X an own class without own __init__ -/
structure OwnX (X : Cx) (x : Str) (C : Addr) : Prop where
  gC : X.mg x = some (.ref C)
  xP : PySem.W.excIn X.K C [.type "ValueError", .type "Exception", .type "BaseException", .type "object"] "ValueError.__new__" = true
  kP : PySem.W.keepIn X.K (.ref C) = true
  bP : PySem.W.subIn X.K (.ref C) (.type "BaseException") = some true
  tP : PySem.W.typeIn X.K (.ref C) = some (.type "type")
def sRaise (n : Str) : ES := fun ρ => .exc ⟨n, []⟩ ρ
theorem es_raise {x m : Str} {C : Addr} {j : Nat} {p2 p3 : Pos} (hc : X.calm = true) (tk : Takes X W) (o : OwnX X x C) (hg : Gl X x := by rfl) (hdb : (x == ("__debug__" : Str)) = false := by decide) :
    Es X W (.Raise (some (.Call (.Name x p) [.Constant (.str m) j p2] [] p3)) none pos) (sRaise x) := by
  refine ⟨fun {Z0 H0 Z H σ ρ En} r q => toAtS (ps_raise hc tk (pmk_own PySem.F.excBase_ValueError o.xP o.gC o.kP (raises_own o.bP o.tP) hg hdb)) ?_⟩
  exact q _ _ _ _ _ r (Same.refl _) (.bare o.gC)
end
end PQ

/-! PQ.10: the script -/
namespace PQ
open PySem PySem.Spec PyProof.Rows L2
open PySem.W (alike alikeAll dataLt rcLt_alike)

/-! ### script[:63] -/
def eCutS (i : Nat) (P P' : EP') : EV := fun ρ => match ρ[i]? with
  | some (.s ns) => P ρ >>= fun lo => P' ρ >>= fun hi => .ok (.list (cutL (ns.map .int) lo hi))
  | _ => .stuck
section
variable {X : Cx} {W : WX} {a b c e : Expr} {es rest : List Expr} {pos p : Pos} {F G I : EV} {T U : ET} {Fs : EA}
theorem sqL_mono {K : PySem.W.Frag} {Z H : Hp} (s : Same Z H) {p : Addr} {xs : List V} (h : SqL K Z p xs) : SqL K H p xs := by
  rcases h with (h | ⟨o, h⟩) | h
  · exact .inl (.inl (s _ _ h))
  · exact .inl (.inr ⟨o, s _ _ h⟩)
  · exact .inr h
theorem int_rds {w : World} {K : PySem.W.Frag} {Z : Hp} : ∀ ns : List Int, RDs w K Z (ns.map V.int) (ns.map .int)
  | [] => .nil
  | n :: ns => .cons (.int n) (int_rds ns)
theorem ev_cutS (i : Nat) {x : Str} {lo hi : Option Expr} {P P' : EP'} {p2 : Pos} (hl : Ep X W lo P) (hh : Ep X W hi P') (hN : X.N[i]? = some x := by rfl) (hv : Vis X.env.scope x := by first | exact Or.inl rfl | exact Or.inr (Or.inl rfl) | exact Or.inr (Or.inr rfl)) (hd : (x == ("__debug__" : Str)) = false := by decide)
    (hcd : (x == ("__classdict__" : Str)) = false := by decide) : Ev X W (.Subscript (.Name x p) (.Slice lo hi none p2) pos) (eCutS i P P') := by
  refine ⟨fun {Z0 H0 Z H σ ρ Q} r q => toAt (pe_slice sl_all (pe_var hN hv hd hcd) po_at po_at) ?_⟩
  unfold eCutS at q
  split at q
  · rename_i ns hr
    obtain ⟨c, h1, a, rfl, hS⟩ := r.getS hr
    refine ⟨.ref a, h1, ?_⟩
    refine hl.go r (q.bind.mono fun l hl Z2 H2 x2 => ?_)
    refine hh.go (r.step x2) ((hl.bind.step x2).mono fun u hu Z3 H3 x3 => ?_)
    have hS3 : SqL X.K H3 a (ns.map V.int) := sqL_mono ((r.ext.hh.trans x2.hh).trans x3.hh) hS
    refine .inl ⟨a, _, rfl, hS3, fun o no => ?_⟩
    refine hu _ _ _ ((x2.trans x3).trans (Ext.new x3.zh no)) (.lst upd_same ?_)
    exact RDs.cut (int_rds ns) l u
  · exact q.elim

/-! ### f(script, ..) -/
def spS (w : World) (K : PySem.W.Frag) (mg : Str → Option Value) (n : Nat) (F : List Int → List D → R D) : Sp := fun vs H Q E => ∃ Z a ns us ds, vs = .ref a :: us ∧ Same Z H ∧ SqL K H a (ns.map V.int) ∧ RDs w K Z us ds ∧ vs.length = n ∧
  match F ns ds with
  | .ok d => ∀ v Z' H', Ext Z H Z' H' → RD w K Z' v d → Q v H'
  | .exc x => ∀ cls dx Z' H', Ext Z H Z' H' → RX w K mg Z' x cls dx → E cls dx H'
  | .stuck => False
def runS (n : Nat) (S : ES) (ns : List Int) (ds : List D) : R D := (S (.s ns :: (ds.map .f ++ List.replicate (n - (ds.length + 1)) .u))).res
section
variable {P : Program} {w : World} {K : PySem.W.Frag} {mg : Str → Option Value} {base : Heap} {Z H : Hp}
theorem rep_startS {vs : List V} {ds : List D} {a : Addr} {ns : List Int} (N : List Str) (s : Same Z H) (hS : SqL K H a (ns.map V.int)) (r : RDs w K Z vs ds) :
    Rep w K Z H Z H (L2.start N (.ref a :: vs)) (.s ns :: (ds.map Sl.f ++ List.replicate (N.length - (ds.length + 1)) .u)) := by
  unfold L2.start
  rw [List.length_cons, r.length]
  refine ⟨Ext.refl s, by simp [r.length], fun i c s' h1 h2 => ?_, fun i j c e s' t b _ _ _ h1 _ o _ => ?_⟩
  · cases i with
    | zero =>
      simp at h1 h2
      subst h1 h2
      exact ⟨a, rfl, hS⟩
    | succ i => exact rds_slots r _ i c s' (by simpa using h1) (by simpa using h2)
  · cases i with
    | zero =>
      simp at h1
      rw [← h1] at o
      exact o
    | succ i => exact rds_noOwn ds _ i (by simpa using h1) o
theorem fn_okS {x qual : Str} {st : Stmt} {f : Addr} {fd : FuncData} {N ps : List Str} {k : Nat} {S : ES} (F : Fun K x qual st f fd) (Sc : FnScope N ps (defScope st))
    (hbody : ∀ (cdv : Value) (A : Around) (outer : List Env) (s : Shared) (H : Hp) (E : XK), Room k (A.deeper (envOfC qual (defScope st) s.heap.objs.size f cdv)) →
      Ess (cxOf (L2.CX P w) P w K mg base N qual (defScope st) f cdv A outer s H E) (WD E) (defBody st) S) :
    FnOk P w K mg base (L2.CX P w) (k + 1) f fd ps (spS w K mg ps.length (runS N.length S)) := by
  refine F.okX Sc (fun vs H Q E h => ?_) fun cdv A outer s H vs Q E hr h => ?_
  · obtain ⟨Z, a, ns, us, ds, e, _, _, _, h, _⟩ := h; exact h
  · obtain ⟨Z, a, ns, us, ds, rfl, sz, hS, rd, hl, h⟩ := h
    refine ⟨_, pss_at, (hbody cdv A outer s H E hr).go (rep_startS (w := w) (K := K) N sz hS rd) ?_⟩
    unfold runS at h
    cases e : S (.s ns :: (ds.map Sl.f ++ List.replicate (N.length - (ds.length + 1)) .u)) with
    | nx ρ => rw [e] at h; exact fun σ' Z' H' r' _ => h _ _ _ r'.ext .non
    | ret d => rw [e] at h; exact fun v Z' H' x rd => h _ _ _ x rd
    | exc x ρ => rw [e] at h; exact fun cls dx σ' Z' H' r' _ rx => h _ _ _ _ r'.ext rx
    | bk ρ => rw [e] at h; exact h.elim
    | ct ρ => rw [e] at h; exact h.elim
    | stuck => rw [e] at h; exact h.elim
end
def eCallS (i : Nat) (F : List Int → List D → R D) (Fs : EA) : EV := fun ρ => match ρ[i]? with
  | some (.s ns) => Fs ρ >>= F ns
  | _ => .stuck
theorem ev_callS (i : Nat) {k n : Nat} {f : Addr} {fd : FuncData} {ps : List Str} {F : List Int → List D → R D} {x y : Str} (G : FnOk X.prog X.w X.K X.mg X.base (L2.CX X.prog X.w) k f fd ps (spS X.w X.K X.mg n F)) (hn : es.length + 1 = n) (tk : Takes X W) (hr : Room k X.A) (hm : X.mg x = some (.ref f))
    (hk : PySem.W.keepIn X.K (.ref f) = true) (hb : Binds X.K fd ps []) (ha : Ea X W es Fs) {p' : Pos} (he : starEach (.Name y p' :: es) X.env = (false, eval (.Name y p') X.env) :: starEach es X.env := by rfl) (hg : Gl X x := by rfl) (hdb : (x == ("__debug__" : Str)) = false := by decide)
    (hN : X.N[i]? = some y := by rfl) (hv : Vis X.env.scope y := by first | exact Or.inl rfl | exact Or.inr (Or.inl rfl) | exact Or.inr (Or.inr rfl)) (hd : (y == ("__debug__" : Str)) = false := by decide)
    (hcd : (y == ("__classdict__" : Str)) = false := by decide) :
    Ev X W (.Call (.Name x p) (.Name y p' :: es) [] pos) (eCallS i F Fs) := by
  refine ⟨fun {Z0 H0 Z H σ ρ Q} r q => toAt (pe_callS G hr hg hm hk hb (fun σ => passAt tk σ) (pa_cons (pe_var hN hv hd hcd) pa_at he) hdb he (ha.pl _)) ?_⟩
  unfold eCallS at q
  split at q
  · rename_i ns hrn
    obtain ⟨c, h1, a, rfl, hS⟩ := r.getS hrn
    refine ⟨.ref a, h1, ?_⟩
    refine ha.go r (q.bind.eq.mono fun ds hd vs Z1 H1 x1 r1 => ?_)
    obtain ⟨hd0, hd⟩ := hd
    refine ⟨Z1, a, ns, vs, ds, rfl, x1.zh, sqL_mono (r.ext.hh.trans x1.hh) hS, r1, by rw [List.length_cons, r1.length, ha.len ρ ds hd0, hn], ?_⟩
    cases e1 : F ns ds with
    | ok d => rw [e1] at hd; exact fun v Z' H' x rd => hd _ _ _ (x1.trans x) rd
    | exc x => rw [e1] at hd; exact fun cls dx Z' H' x rx => hd _ _ _ _ (x1.trans x) rx
    | stuck => rw [e1] at hd; exact hd.elim
  · exact q.elim
/-- the law's promise, asked as walk_of asks it -/
theorem law_sp {w : World} {K : PySem.W.Frag} {mg : Str → Option Value} {F : List Int → List D → R D} (hF : ∀ ns : List Int, ns.length ≤ 63 → F ns [] = .ok (.bool true)) (H : Hp) (a : Addr) (ns : List Int) (hl : ns.length ≤ 63) (hS : SqL K H a (ns.map V.int)) :
    spS w K mg 1 F [.ref a] H (fun v _ => v = .bl true) fun _ _ _ => False := by
  refine ⟨fun _ => none, a, ns, [], [], rfl, fun _ _ e => (by cases e), hS, .nil, rfl, ?_⟩
  rw [hF ns hl]
  exact fun v Z' H' _ rd => rd_bool rd
end
end PQ

/-! PQ.11: recursion, the law -/
namespace PQ
open PySem PySem.Spec PyProof.Rows L2
open PySem.W (alike alikeAll dataLt rcLt_alike)

section
variable {P : Program} {w : World} {K : PySem.W.Frag} {mg : Str → Option Value} {base : Heap} {Z H : Hp}
theorem fn_stuck {CX : CXT} {k n : Nat} {f : Addr} {fd : FuncData} {ps : List Str} : FnOk P w K mg base CX k f fd ps (spF w K mg n fun _ => .stuck) :=
  ⟨fun vs H Q E h => by obtain ⟨Z, ds, _, _, _, h⟩ := h; exact h.elim, fun A outer s H args us vs Q E hr he hb hv h => by obtain ⟨Z, ds, _, _, _, h⟩ := h; exact h.elim⟩
theorem FnOk.up {CX : CXT} {j k : Nat} {f : Addr} {fd : FuncData} {ps : List Str} {sp : Sp} (F : FnOk P w K mg base CX j f fd ps sp) (h : j ≤ k) : FnOk P w K mg base CX k f fd ps sp := F.mono h
/-- a constant tuple -/
theorem gc_tup {a : Addr} {o : Obj} {xs : List V} {its : Array Value} {n : Nat} (h : K.lookup a = some o) (hc : o.cls = .type "tuple") (hs : o.data = .seq its n) (hz : its.size ≤ sizeLine) (hv : Vals xs its.toList) : SqT K (fun _ => none) a xs := .inr ⟨o, its, n, h, hc, hs, hz, hv⟩
def spLaw (K : PySem.W.Frag) : Sp := fun vs H Q _ => ∃ (a : Addr) (ns : List Int), vs = [.ref a] ∧ SqL K H a (ns.map V.int) ∧ ns.length ≤ 63 ∧ ∀ H', Q (.bl true) H'
theorem law_imp {F : List Int → List D → R D} (hF : ∀ ns : List Int, ns.length ≤ 63 → F ns [] = .ok (.bool true)) {vs : List V} {H : Hp} {Q : VK} {E : XK} (h : spLaw K vs H Q E) : spS w K mg 1 F vs H Q E := by
  obtain ⟨a, ns, rfl, hS, hl, q⟩ := h
  refine ⟨fun _ => none, a, ns, [], [], rfl, fun _ _ e => (by cases e), hS, .nil, rfl, ?_⟩
  rw [hF ns hl]
  exact fun v Z' H' _ rd => by rw [rd_bool rd]; exact q _
theorem cx_false {outer : List Env} {H : Hp} {s : Shared} {e : Value} {s' : Shared} (h : L2.CX P w outer H s (fun _ _ _ => False) e s') : False := by
  obtain ⟨_, _, _, _, _, _, _, _, _, _, _, _, z⟩ := h
  exact z
end
section
variable {X : Cx} {W : WX} {st : Stmt}
theorem set_set {α : Type} (l : List α) (i : Nat) (a b : α) : (l.set i a).set i b = l.set i b := by simp
theorem es_setF {i : Nat} {F : EV} (h : Es X W st (sSet i (mO F))) : Es X W st (sSet i (mF F)) := by
  refine ⟨fun {Z0 H0 Z H σ ρ En} r q => h.go r ?_⟩
  unfold sSet mF at q
  unfold sSet mO
  cases e : F ρ with
  | exc x => rw [e] at q; exact q
  | stuck => rw [e] at q; exact q
  | ok d =>
    rw [e] at q
    intro σ' Z' H' r' s'
    by_cases hi : i < ρ.length
    · have g : (ρ.set i (.o d))[i]? = some (.o d) := by simp [hi]
      obtain ⟨Z2, r2, s2⟩ := r'.freeze g
      rw [set_set] at r2
      exact q _ _ _ r2 (s'.trans s2)
    · have e1 : ρ.set i (.o d) = ρ := List.set_eq_of_length_le (by omega)
      have e2 : ρ.set i (.f d) = ρ := List.set_eq_of_length_le (by omega)
      have q : SPost X W Z0 H0 Z (.nx (ρ.set i (.f d))) En := q
      rw [e2] at q
      rw [e1] at r'
      exact q _ _ _ r' s'
end
end PQ

/-! PQ.12: single comparisons as tests -/
namespace PQ
open PySem PySem.Spec PyProof.Rows L2
open PySem.W (alike alikeAll dataLt rcLt_alike)

section
variable {X : Cx} {W : WX} {a b c e : Expr} {es rest : List Expr} {pos p : Pos} {F G I : EV} {T U : ET} {Fs : EA}
theorem et_2 {op : CmpOp} {r : R2} {f : D → D → R D} (h1 : OpR X (compareOp op) r) (o1 : OpD X r f) (c1 : ∀ x y, (f x y).clean) (ha : Ev X W a F) (hb : Ev X W b G) (hm : behindInMarks op b = false) : Et X W (.Compare a [op] [b] pos) (tV (e2 f F G)) := by
  refine ⟨fun {Z0 H0 Z H σ ρ Q} r q => toAtT (pt_cmpR h1 pe_at pe_at hm) ?_⟩
  refine ha.go r (q.bind.bind.mono fun d hd v Z1 H1 x1 r1 => ?_)
  have hd := hd.step x1
  refine hb.go (r.step x1) (hd.bind.mono fun d2 hd2 v2 Z2 H2 x2 r2 => ?_)
  refine o1 Z2 H2 v v2 d d2 _ x2.zh (r1.mono x2.zz) r2 ?_
  have p := hd2.to0 (c1 d d2)
  cases hf : f d d2 with
  | ok z =>
    rw [hf] at p
    intro v3 Z3 H3 x3 r3
    cases z with
    | bool k => cases r3; exact ⟨k, rfl, p _ _ ((x1.trans x2).trans x3)⟩
    | _ => exact p.elim
  | exc x => rw [hf] at p; exact p.elim
  | stuck => rw [hf] at p; exact p.elim
theorem et_eq (hu : HasRoom X) (ha : Ev X W a F) (hb : Ev X W b G) : Et X W (.Compare a [.Eq] [b] pos) (tV (e2 dEq F G)) := et_2 (op_eqP (by have : X.A.units + 100 < cLine := hu; omega)) od_eq cl_eq ha hb (nomark _)
theorem et_ne (hu : HasRoom X) (ha : Ev X W a F) (hb : Ev X W b G) : Et X W (.Compare a [.NotEq] [b] pos) (tV (e2 dNe F G)) := et_2 (op_neP (by have : X.A.units + 100 < cLine := hu; omega)) od_ne cl_ne ha hb (nomark _)
theorem et_lt (hu : HasRoom X) (ha : Ev X W a F) (hb : Ev X W b G) : Et X W (.Compare a [.Lt] [b] pos) (tV (e2 dLt F G)) := et_2 (op_lt.or (op_ltP (by have : X.A.units + 100 < cLine := hu; omega))) od_lt cl_lt ha hb (nomark _)
theorem et_le (ha : Ev X W a F) (hb : Ev X W b G) : Et X W (.Compare a [.LtE] [b] pos) (tV (e2 dLe F G)) := et_2 op_le od_le cl_le ha hb (nomark _)
theorem et_gt (ha : Ev X W a F) (hb : Ev X W b G) : Et X W (.Compare a [.Gt] [b] pos) (tV (e2 dGt F G)) := et_2 op_gt od_gt cl_gt ha hb (nomark _)
theorem et_ge (ha : Ev X W a F) (hb : Ev X W b G) : Et X W (.Compare a [.GtE] [b] pos) (tV (e2 dGe F G)) := et_2 op_ge od_ge cl_ge ha hb (nomark _)
theorem et_in (hu : HasRoom X) (ha : Ev X W a F) (hb : Ev X W b G) (hm : behindInMarks .In b = false := by rfl) : Et X W (.Compare a [.In] [b] pos) (tV (e2 dIn F G)) := et_2 (op_inP hu) od_in cl_in ha hb hm
theorem et_notIn (hu : HasRoom X) (ha : Ev X W a F) (hb : Ev X W b G) (hm : behindInMarks .NotIn b = false := by rfl) : Et X W (.Compare a [.NotIn] [b] pos) (tV (e2 dNotIn F G)) := et_2 (op_notInP hu) od_notIn cl_notIn ha hb hm
theorem et_isN {j p} (ha : Ev X W a F) : Et X W (.Compare a [.Is] [.Constant .none j p] pos) (tV (e1 dIsN F)) := by
  refine ⟨fun {Z0 H0 Z H σ ρ Q} r q => toAtT (pt_cmp (pc_isN pe_at) rfl) ?_⟩
  refine ha.go r (q.bind.bind.mono fun d hd v Z1 H1 x1 r1 => ?_)
  refine ⟨decide (v = .non), rfl, ?_⟩
  rw [rd_none r1]
  exact hd _ _ x1
theorem et_notN {j p} (ha : Ev X W a F) : Et X W (.Compare a [.IsNot] [.Constant .none j p] pos) (tV (e1 dNotN F)) := by
  refine ⟨fun {Z0 H0 Z H σ ρ Q} r q => toAtT (pt_cmp (pc_notN pe_at) rfl) ?_⟩
  refine ha.go r (q.bind.bind.mono fun d hd v Z1 H1 x1 r1 => ?_)
  refine ⟨!decide (v = .non), rfl, ?_⟩
  rw [rd_none r1]
  exact hd _ _ x1
end
end PQ

/-! PQ.13: how denotations compute -/
namespace PQ
open PySem PySem.Spec PyProof.Rows L2
open PySem.W (alike alikeAll dataLt rcLt_alike)

def slF : Option Sl → R D
  | some (.f d) => .ok d
  | _ => .stuck
def slS : Option Sl → R (List Int)
  | some (.s ns) => .ok ns
  | _ => .stuck
def slO : Option Sl → R (List D)
  | some (.o (.list ds)) => .ok ds
  | _ => .stuck
@[simp] theorem slF_f (d : D) : slF (some (.f d)) = .ok d := id rfl
@[simp] theorem slS_s (d : List Int) : slS (some (.s d)) = .ok d := id rfl
@[simp] theorem slO_o (d : List D) : slO (some (.o (.list d))) = .ok d := id rfl
def bor1 {α : Type} (ok : α → Bool) (s : Option Sl) (a : R α) (b : D → R α) : R α := match s with
  | some (.o d) => borR ok (b d)
  | _ => a
def Out.thn (o : Out) (k : ES) : Out := match o with
  | .nx ρ => k ρ
  | o => o
@[simp] theorem thn_nx (ρ : Rho) (k : ES) : (Out.nx ρ).thn k = k ρ := id rfl
@[simp] theorem thn_ret (d : D) (k : ES) : (Out.ret d).thn k = .ret d := id rfl
@[simp] theorem thn_bk (ρ : Rho) (k : ES) : (Out.bk ρ).thn k = .bk ρ := id rfl
@[simp] theorem thn_ct (ρ : Rho) (k : ES) : (Out.ct ρ).thn k = .ct ρ := id rfl
@[simp] theorem thn_exc (x : Exc) (ρ : Rho) (k : ES) : (Out.exc x ρ).thn k = .exc x ρ := id rfl
@[simp] theorem thn_stuck (k : ES) : Out.stuck.thn k = .stuck := id rfl
@[simp] theorem of_stuck {α : Type} (ρ : Rho) (k : α → Out) : Out.of (.stuck) ρ k = .stuck := id rfl
theorem frz_o {i : Nat} {ρ : Rho} {d : D} (h : ρ[i]? = some (.o d)) : frz i ρ = ρ.set i (.f d) := by unfold frz; rw [h]
theorem frz_f {i : Nat} {ρ : Rho} {d : D} (h : ρ[i]? = some (.f d)) : frz i ρ = ρ := by unfold frz; rw [h]
@[simp] theorem x_eNone (ρ : Rho) : eNone ρ = .ok .none := id rfl
@[simp] theorem x_eBool (b : Bool) (ρ : Rho) : eBool b ρ = .ok (.bool b) := id rfl
@[simp] theorem x_eInt (i : Int) (ρ : Rho) : eInt i ρ = .ok (.int i) := id rfl
@[simp] theorem x_eStr (x : Str) (ρ : Rho) : eStr x ρ = .ok (.str x) := id rfl
@[simp] theorem x_eD (d : D) (ρ : Rho) : eD d ρ = .ok d := id rfl
@[simp] theorem x_eVar (i : Nat) (ρ : Rho) : eVar i ρ = slF ρ[i]? := id rfl
@[simp] theorem x_eNil (ρ : Rho) : eNil ρ = .ok [] := id rfl
@[simp] theorem x_eCons (F : EV) (Fs : EA) (ρ : Rho) : eCons F Fs ρ = (F ρ >>= fun d => Fs ρ >>= fun ds => .ok (d :: ds)) := id rfl
@[simp] theorem x_eTup (Fs : EA) (ρ : Rho) : eTup Fs ρ = (Fs ρ >>= fun ds => .ok (.tuple ds)) := id rfl
@[simp] theorem x_eLst (Fs : EA) (ρ : Rho) : eLst Fs ρ = (Fs ρ >>= fun ds => .ok (.list ds)) := id rfl
@[simp] theorem x_e1 (f : D → R D) (F : EV) (ρ : Rho) : e1 f F ρ = (F ρ >>= f) := id rfl
@[simp] theorem x_e2 (f : D → D → R D) (F G : EV) (ρ : Rho) : e2 f F G ρ = (F ρ >>= fun x => G ρ >>= fun y => f x y) := id rfl
@[simp] theorem x_eA (f : List D → R D) (Fs : EA) (ρ : Rho) : eA f Fs ρ = (Fs ρ >>= f) := id rfl
@[simp] theorem x_tV (F : EV) (ρ : Rho) : tV F ρ = (F ρ >>= asB) := id rfl
@[simp] theorem x_asB (b : Bool) : asB (.bool b) = .ok b := id rfl
@[simp] theorem x_asI (i : Int) : asI (.int i) = .ok i := id rfl
@[simp] theorem x_tNotB (T : ET) (ρ : Rho) : tNotB T ρ = (T ρ >>= fun b => .ok (!b)) := id rfl
@[simp] theorem x_tAndB (T U : ET) (ρ : Rho) : tAndB T U ρ = (T ρ >>= fun b => if b = true then U ρ else .ok false) := id rfl
@[simp] theorem x_tOrB (T U : ET) (ρ : Rho) : tOrB T U ρ = (T ρ >>= fun b => if b = true then .ok true else U ρ) := id rfl
@[simp] theorem x_tTrue (ρ : Rho) : tTrue ρ = .ok true := id rfl
@[simp] theorem x_eAnd (F G : EV) (ρ : Rho) : eAnd F G ρ = (F ρ >>= fun x => asB x >>= fun b => if b = true then G ρ else .ok (.bool false)) := by unfold eAnd; cases F ρ <;> rfl
@[simp] theorem x_eOr (F G : EV) (ρ : Rho) : eOr F G ρ = (F ρ >>= fun x => asB x >>= fun b => if b = true then .ok (.bool true) else G ρ) := by unfold eOr; cases F ρ <;> rfl
@[simp] theorem x_eNot (F : EV) (ρ : Rho) : eNot F ρ = (F ρ >>= fun x => asB x >>= fun b => .ok (.bool (!b))) := by unfold eNot; cases F ρ <;> rfl
@[simp] theorem x_eIte (T : ET) (F G : EV) (ρ : Rho) : eIte T F G ρ = (T ρ >>= fun b => if b = true then F ρ else G ρ) := id rfl
@[simp] theorem x_eCh (f g : D → D → R D) (F G I : EV) (ρ : Rho) : eCh f g F G I ρ = (F ρ >>= fun x => G ρ >>= fun y => f x y >>= fun c => asB c >>= fun k => if k = true then I ρ >>= fun z => g y z else .ok (.bool false)) := by unfold eCh; cases F ρ <;> first | rfl | (rename_i x; show (G ρ >>= _) = (G ρ >>= _); cases G ρ <;> first | rfl | (rename_i y; show (f x y >>= asB >>= _) = (f x y >>= _); cases f x y <;> rfl))
@[simp] theorem x_pNone (ρ : Rho) : pNone ρ = .ok none := id rfl
@[simp] theorem x_pSome (F : EV) (ρ : Rho) : pSome F ρ = (F ρ >>= asI >>= fun i => .ok (some i)) := by unfold pSome; cases F ρ with | ok d => cases d <;> rfl | exc x => rfl | stuck => rfl
@[simp] theorem x_eCut (F : EV) (P P' : EP') (ρ : Rho) : eCut F P P' ρ = (F ρ >>= fun x => P ρ >>= fun lo => P' ρ >>= fun hi => dCut lo hi x) := id rfl
@[simp] theorem x_iSeq (F : EV) (ρ : Rho) : iSeq F ρ = (F ρ >>= seqOf) := id rfl
@[simp] theorem x_iRg1 (F : EV) (ρ : Rho) : iRg1 F ρ = (F ρ >>= fun d => asI d >>= fun n => guardR (big62 n) (rgD 0 n)) := by unfold iRg1; cases F ρ <;> rfl
@[simp] theorem x_iRg2 (F G : EV) (ρ : Rho) : iRg2 F G ρ = (F ρ >>= fun d => asI d >>= fun m => G ρ >>= fun e => asI e >>= fun n => guardR (big62 m && big62 n) (rgD m n)) := by unfold iRg2; cases F ρ with | exc x => rfl | stuck => rfl | ok d => (show (asI d >>= _) = (asI d >>= _); cases asI d with | exc x => rfl | stuck => rfl | ok m => (show (G ρ >>= asI >>= _) = (G ρ >>= _); cases G ρ <;> rfl))
@[simp] theorem x_seqOfL (ds : List D) : seqOf (.list ds) = .ok ds := id rfl
@[simp] theorem x_seqOfT (ds : List D) : seqOf (.tuple ds) = .ok ds := id rfl
@[simp] theorem x_seqOfS (z : Str) : seqOf (.str z) = .ok (signs z) := id rfl
@[simp] theorem x_eCutS (i : Nat) (P P' : EP') (ρ : Rho) : eCutS i P P' ρ = (slS ρ[i]? >>= fun ns => P ρ >>= fun lo => P' ρ >>= fun hi => .ok (.list (cutL (ns.map .int) lo hi))) := by unfold eCutS slS; cases ρ[i]? with | none => rfl | some s => cases s <;> rfl
@[simp] theorem x_eCall (F : List D → R D) (Fs : EA) (ρ : Rho) : eCall F Fs ρ = (Fs ρ >>= F) := id rfl
@[simp] theorem x_eCallS (i : Nat) (F : List Int → List D → R D) (Fs : EA) (ρ : Rho) : eCallS i F Fs ρ = (slS ρ[i]? >>= fun ns => Fs ρ >>= F ns) := by unfold eCallS slS; cases ρ[i]? with | none => rfl | some s => cases s <;> rfl
@[simp] theorem x_mF (F : EV) (ρ : Rho) : mF F ρ = (F ρ >>= fun d => .ok (.f d)) := id rfl
@[simp] theorem x_mO (F : EV) (ρ : Rho) : mO F ρ = (F ρ >>= fun d => .ok (.o d)) := id rfl
@[simp] theorem x_sNil (ρ : Rho) : sNil ρ = .nx ρ := id rfl
@[simp] theorem x_sPass (ρ : Rho) : sPass ρ = .nx ρ := id rfl
@[simp] theorem x_sBreak (ρ : Rho) : sBreak ρ = .bk ρ := id rfl
@[simp] theorem x_sContinue (ρ : Rho) : sContinue ρ = .ct ρ := id rfl
@[simp] theorem x_sCons (S S' : ES) (ρ : Rho) : sCons S S' ρ = (S ρ).thn S' := by unfold sCons Out.thn; cases S ρ <;> rfl
@[simp] theorem x_sRet (F : EV) (ρ : Rho) : sRet F ρ = Out.of (F ρ) ρ .ret := id rfl
@[simp] theorem x_sRetN (ρ : Rho) : sRetN ρ = .ret .none := id rfl
@[simp] theorem x_sExpr (F : EV) (ρ : Rho) : sExpr F ρ = Out.of (F ρ) ρ fun _ => .nx ρ := id rfl
@[simp] theorem x_sNever (ρ : Rho) : sNever ρ = .stuck := id rfl
@[simp] theorem x_sIf (T : ET) (S S' : ES) (ρ : Rho) : sIf T S S' ρ = Out.of (T ρ) ρ fun b => if b = true then S ρ else S' ρ := id rfl
@[simp] theorem x_sSet (i : Nat) (F : Rho → R Sl) (ρ : Rho) : sSet i F ρ = Out.of (F ρ) ρ fun s => .nx (ρ.set i s) := id rfl
@[simp] theorem x_sAsg (F : EV) (A : EG) (ρ : Rho) : sAsg F A ρ = Out.of (F ρ) ρ fun d => Out.of (A d ρ) ρ .nx := id rfl
@[simp] theorem x_sPar (i j : Nat) (F G : Rho → R Sl) (ρ : Rho) : sPar i j F G ρ = Out.of (F ρ) ρ fun s => Out.of (G ρ) ρ fun t => .nx ((ρ.set i s).set j t) := id rfl
@[simp] theorem x_sAug (i : Nat) (f : D → D → R D) (F : EV) (ρ : Rho) : sAug i f F ρ = Out.of (eVar i ρ) ρ fun x => Out.of (F ρ) ρ fun y => Out.of (f x y) ρ fun z => .nx (ρ.set i (.f z)) := id rfl
@[simp] theorem x_sApp (i : Nat) (F : EV) (ρ : Rho) : sApp i F ρ = Out.of (slO ρ[i]?) ρ fun ds => Out.of (F ρ) ρ fun d => Out.of (guardR (fits (ds.length + 1)) ()) ρ fun _ => .nx (ρ.set i (.o (.list (ds ++ [d])))) := by unfold sApp slO; cases ρ[i]? with | none => rfl | some s => cases s with | o d => cases d <;> rfl | _ => rfl
@[simp] theorem x_sFor (Fi : EI) (A : EG) (B : ES) (ks : List Nat) (ρ : Rho) : sFor Fi A B ks ρ = Out.of (Fi ρ) ρ fun ds => forL A B ks ds (wipeR ρ ks) := id rfl
@[simp] theorem x_sFrz (i : Nat) (S : ES) (ρ : Rho) : sFrz i S ρ = S (frz i ρ) := id rfl
@[simp] theorem x_sKill (ks : List Nat) (S : ES) (ρ : Rho) : sKill ks S ρ = oKill ks (S ρ) := id rfl
@[simp] theorem x_aName (i : Nat) (d : D) (ρ : Rho) : aName i d ρ = .ok (ρ.set i (.f d)) := id rfl
@[simp] theorem x_aTup (B : List D → Rho → R Rho) (ds : List D) (ρ : Rho) : aTup B (.tuple ds) ρ = B ds ρ := id rfl
@[simp] theorem x_aNil (ρ : Rho) : aNil [] ρ = .ok ρ := id rfl
@[simp] theorem x_aCons (A : EG) (B : List D → Rho → R Rho) (d : D) (ds : List D) (ρ : Rho) : aCons A B (d :: ds) ρ = (A d ρ >>= fun ρ' => B ds ρ') := id rfl
@[simp] theorem x_wipe0 (ρ : Rho) : wipeR ρ [] = ρ := id rfl
@[simp] theorem x_wipe1 (ρ : Rho) (v : Nat) (vs : List Nat) : wipeR ρ (v :: vs) = (wipeR ρ vs).set v .u := id rfl
@[simp] theorem x_eComp (Fi : EI) (A : EG) (T : ET) (F : EV) (vs : List Nat) (ρ : Rho) : eComp Fi A T F vs ρ = (Fi ρ >>= fun ds => guardR (fits ds.length) ds >>= fun ds => nx (compR (cStep A T F (wipeR ρ vs)) ds) >>= fun ys => .ok (.list ys)) := id rfl
@[simp] theorem x_nxok {α : Type} (a : α) : nx (.ok a : R α) = .ok a := id rfl
@[simp] theorem x_resnx (ρ : Rho) : (Out.nx ρ).res = .ok .none := id rfl
@[simp] theorem x_resret (d : D) : (Out.ret d).res = .ok d := id rfl
@[simp] theorem x_resexc (x : Exc) (ρ : Rho) : (Out.exc x ρ).res = .exc x := id rfl
@[simp] theorem x_bor (i : Nat) (F : EV) (ρ : Rho) : eBor i F ρ = bor1 noLst ρ[i]? (F ρ) (fun d => F (ρ.set i (.f d))) := by unfold eBor borRho bor1; cases ρ[i]? with | none => rfl | some s => cases s <;> rfl
@[simp] theorem x_tbor (i : Nat) (F : ET) (ρ : Rho) : tBor i F ρ = bor1 (fun _ => true) ρ[i]? (F ρ) (fun d => F (ρ.set i (.f d))) := by unfold tBor borRho bor1; cases ρ[i]? with | none => rfl | some s => cases s <;> rfl
@[simp] theorem x_obor (i : Nat) (F : EV) (ρ : Rho) : oBor i F ρ = bor1 flatO ρ[i]? (F ρ) (fun d => F (ρ.set i (.f d))) := by unfold oBor borRho bor1; cases ρ[i]? with | none => rfl | some s => cases s <;> rfl
@[simp] theorem x_bor1 {α : Type} (ok : α → Bool) (d : D) (a : R α) (b : D → R α) : bor1 ok (some (.o d)) a b = borR ok (b d) := id rfl
@[simp] theorem x_bor0 {α : Type} (ok : α → Bool) (d : D) (a : R α) (b : D → R α) : bor1 ok (some (.f d)) a b = a := id rfl
@[simp] theorem x_borR {α : Type} (ok : α → Bool) (d : α) : borR ok (.ok d) = guardR (ok d) d := id rfl
@[simp] theorem x_dAdd (i j : Int) : dAdd (.int i) (.int j) = .ok (.int (i + j)) := id rfl
@[simp] theorem x_dSub (i j : Int) : dSub (.int i) (.int j) = .ok (.int (i - j)) := id rfl
@[simp] theorem x_dIAdd (i j : Int) : dIAdd (.int i) (.int j) = .ok (.int (i + j)) := id rfl
@[simp] theorem x_dISub (i j : Int) : dISub (.int i) (.int j) = .ok (.int (i - j)) := id rfl
@[simp] theorem x_dAddS (a b : Str) : dAdd (.str a) (.str b) = guardR (fits (a.length + b.length)) (.str (a ++ b)) := id rfl
@[simp] theorem x_dAddT (a b : List D) : dAdd (.tuple a) (.tuple b) = guardR (fits (a.length + b.length)) (.tuple (a ++ b)) := id rfl
@[simp] theorem x_dAddL (a b : List D) : dAdd (.list a) (.list b) = guardR (fits (a.length + b.length)) (.list (a ++ b)) := id rfl
@[simp] theorem x_dMul (i j : Int) : dMul (.int i) (.int j) = guardR (mulOk i j) (.int (i * j)) := id rfl
@[simp] theorem x_dFdiv (i j : Int) : dFdiv (.int i) (.int j) = guardR (divOk j) (.int (i / j)) := id rfl
@[simp] theorem x_dMod (i j : Int) : dMod (.int i) (.int j) = guardR (decide (0 < j)) (.int (i % j)) := id rfl
@[simp] theorem x_dIMul (i j : Int) : dIMul (.int i) (.int j) = guardR (mulOk i j) (.int (i * j)) := id rfl
@[simp] theorem x_dIFdiv (i j : Int) : dIFdiv (.int i) (.int j) = guardR (divOk j) (.int (i / j)) := id rfl
@[simp] theorem x_dNeg (i : Int) : dNeg (.int i) = .ok (.int (-i)) := id rfl
@[simp] theorem x_dLt (i j : Int) : dLt (.int i) (.int j) = .ok (.bool (decide (i < j))) := id rfl
@[simp] theorem x_dLe (i j : Int) : dLe (.int i) (.int j) = .ok (.bool (decide (i ≤ j))) := id rfl
@[simp] theorem x_dGt (i j : Int) : dGt (.int i) (.int j) = .ok (.bool (decide (j < i))) := id rfl
@[simp] theorem x_dGe (i j : Int) : dGe (.int i) (.int j) = .ok (.bool (decide (j ≤ i))) := id rfl
@[simp] theorem x_dLtI (i j : Int) : dLtI (.int i) (.int j) = .ok (.bool (decide (i < j))) := id rfl
@[simp] theorem x_dLenL (ds : List D) : dLen [.list ds] = .ok (.int ds.length) := id rfl
@[simp] theorem x_dLenT (ds : List D) : dLen [.tuple ds] = .ok (.int ds.length) := id rfl
@[simp] theorem x_dLenS (z : Str) : dLen [.str z] = guardR (fits z.length) (.int z.length) := id rfl
@[simp] theorem x_dInt (i : Int) : dInt [.int i] = .ok (.int i) := id rfl
@[simp] theorem x_dIntB (b : Bool) : dInt [.bool b] = .ok (.int (if b then 1 else 0)) := id rfl
@[simp] theorem x_dAbs (i : Int) : dAbs [.int i] = .ok (.int (if i < 0 then -i else i)) := id rfl
@[simp] theorem x_dMax2 (i j : Int) : dMax2 [.int i, .int j] = .ok (.int (if j > i then j else i)) := id rfl
@[simp] theorem x_dMin2 (i j : Int) : dMin2 [.int i, .int j] = .ok (.int (if j < i then j else i)) := id rfl
@[simp] theorem x_dCutL (lo hi : Option Int) (ds : List D) : dCut lo hi (.list ds) = .ok (.list (cutL ds lo hi)) := id rfl
@[simp] theorem x_dCutT (lo hi : Option Int) (ds : List D) : dCut lo hi (.tuple ds) = .ok (.tuple (cutL ds lo hi)) := id rfl
@[simp] theorem x_dCutS (lo hi : Option Int) (z : Str) : dCut lo hi (.str z) = guardR (fits z.length) (.str (cutS z lo hi)) := id rfl
@[simp] theorem x_dIsN (x : D) : dIsN x = .ok (.bool (isNone x)) := id rfl
@[simp] theorem x_dNotN (x : D) : dNotN x = .ok (.bool (!isNone x)) := id rfl
@[simp] theorem x_isNonenone  : isNone .none = true := id rfl
@[simp] theorem x_isinone (T : String)  : dIsi' T .none = .ok (.bool (isaB T .none)) := id rfl
@[simp] theorem x_isNonebool (b : Bool) : isNone (.bool b) = false := id rfl
@[simp] theorem x_isibool (T : String) (b : Bool) : dIsi' T (.bool b) = .ok (.bool (isaB T (.bool b))) := id rfl
@[simp] theorem x_isNoneint (b : Int) : isNone (.int b) = false := id rfl
@[simp] theorem x_isiint (T : String) (b : Int) : dIsi' T (.int b) = .ok (.bool (isaB T (.int b))) := id rfl
@[simp] theorem x_isNonestr (b : Str) : isNone (.str b) = false := id rfl
@[simp] theorem x_isistr (T : String) (b : Str) : dIsi' T (.str b) = .ok (.bool (isaB T (.str b))) := id rfl
@[simp] theorem x_isNonelist (b : List D) : isNone (.list b) = false := id rfl
@[simp] theorem x_isilist (T : String) (b : List D) : dIsi' T (.list b) = .ok (.bool (isaB T (.list b))) := id rfl
@[simp] theorem x_isNonetuple (b : List D) : isNone (.tuple b) = false := id rfl
@[simp] theorem x_isituple (T : String) (b : List D) : dIsi' T (.tuple b) = .ok (.bool (isaB T (.tuple b))) := id rfl
@[simp] theorem x_guard {α : Type} (a : α) : guardR true a = .ok a := id rfl

/-! ### loops -/
theorem forL_cons (A : EG) (B : ES) (ks : List Nat) (d : D) (ds : List D) (ρ ρ1 ρ2 : Rho) (h1 : A d ρ = .ok ρ1) (h2 : B ρ1 = .nx ρ2 ∨ B ρ1 = .ct ρ2) : forL A B ks (d :: ds) ρ = forL A B ks ds (wipeR ρ2 ks) := by
  rw [forL, h1]
  rcases h2 with h2 | h2 <;> simp only [h2]
theorem forL_next {A : EG} {B : ES} {ks : List Nat} {d : D} {ds : List D} {ρ ρ3 : Rho} {o : Out} (ρ1 ρ2 : Rho) (h1 : A d ρ = .ok ρ1) (h2 : B ρ1 = .nx ρ2) (hw : wipeR ρ2 ks = ρ3) (h3 : forL A B ks ds ρ3 = o) : forL A B ks (d :: ds) ρ = o := by
  rw [forL_cons A B ks d ds ρ ρ1 ρ2 h1 (.inl h2), hw, h3]
/-- a for that goes through: I is kept -/
theorem forL_run {A : EG} {B : ES} {ks : List Nat} (I : Nat → Rho → Prop) : ∀ (ds : List D) (i : Nat) (ρ : Rho), I i ρ →
    (∀ (j : Nat) (d : D) (ρ : Rho), ds[j]? = some d → I (i + j) ρ → ∃ ρ1 ρ2, A d ρ = .ok ρ1 ∧ (B ρ1 = .nx ρ2 ∨ B ρ1 = .ct ρ2) ∧ I (i + j + 1) (wipeR ρ2 ks)) → ∃ ρ', forL A B ks ds ρ = .nx ρ' ∧ I (i + ds.length) ρ'
  | [], i, ρ, h, _ => ⟨ρ, rfl, h⟩
  | d :: ds, i, ρ, h, st => by
    obtain ⟨ρ1, ρ2, h1, h2, h3⟩ := st 0 d ρ rfl h
    obtain ⟨ρ', e, q⟩ := forL_run I ds (i + 1) (wipeR ρ2 ks) h3 fun j d' ρ' hd hI => by
      have := st (j + 1) d' ρ' (by simpa using hd) (by rw [show i + (j + 1) = i + 1 + j by omega]; exact hI)
      rw [show i + (j + 1) = i + 1 + j by omega] at this
      exact this
    refine ⟨ρ', ?_, by rw [List.length_cons, show i + (ds.length + 1) = i + 1 + ds.length by omega]; exact q⟩
    rw [forL_cons A B ks d ds ρ ρ1 ρ2 h1 h2, e]
/-- .. or ends within, as N says -/
theorem forL_end {A : EG} {B : ES} {ks : List Nat} (I : Nat → Rho → Prop) (N : Out → Prop) : ∀ (ds : List D) (i : Nat) (ρ : Rho), I i ρ →
    (∀ (j : Nat) (d : D) (ρ : Rho), ds[j]? = some d → I (i + j) ρ → ∃ ρ1, A d ρ = .ok ρ1 ∧ ((∃ ρ2, (B ρ1 = .nx ρ2 ∨ B ρ1 = .ct ρ2) ∧ I (i + j + 1) (wipeR ρ2 ks)) ∨ (∃ ρ2, B ρ1 = .bk ρ2 ∧ N (.nx (wipeR ρ2 ks))) ∨ (∃ v, B ρ1 = .ret v ∧ N (.ret v)) ∨ (∃ x ρ2, B ρ1 = .exc x ρ2 ∧ N (.exc x ρ2)))) →
    N (forL A B ks ds ρ) ∨ ∃ ρ', forL A B ks ds ρ = .nx ρ' ∧ I (i + ds.length) ρ'
  | [], i, ρ, h, _ => .inr ⟨ρ, rfl, h⟩
  | d :: ds, i, ρ, h, st => by
    obtain ⟨ρ1, h1, ⟨ρ2, h2, h3⟩ | ⟨ρ2, h2, h3⟩ | ⟨v, h2, h3⟩ | ⟨x, ρ2, h2, h3⟩⟩ := st 0 d ρ rfl h
    · rw [forL_cons A B ks d ds ρ ρ1 ρ2 h1 h2]
      rcases forL_end I N ds (i + 1) (wipeR ρ2 ks) h3 (fun j d' ρ' hd hI => by
        have := st (j + 1) d' ρ' (by simpa using hd) (by rw [show i + (j + 1) = i + 1 + j by omega]; exact hI)
        rw [show i + (j + 1) = i + 1 + j by omega] at this
        exact this) with q | ⟨ρ', e, q⟩
      · exact .inl q
      · exact .inr ⟨ρ', e, by rw [List.length_cons, show i + (ds.length + 1) = i + 1 + ds.length by omega]; exact q⟩
    · left; rw [forL, h1]; simp only [h2]; exact h3
    · left; rw [forL, h1]; simp only [h2]; exact h3
    · left; rw [forL, h1]; simp only [h2]; exact h3
theorem compR_ok {step : D → R (Option D)} {f : D → Option D} : ∀ {ds : List D}, (∀ d ∈ ds, step d = .ok (f d)) → compR step ds = .ok (ds.filterMap f)
  | [], _ => rfl
  | d :: ds, h => by
    rw [compR, h d List.mem_cons_self, R.ok_bind, compR_ok fun e he => h e (List.mem_cons_of_mem _ he), R.ok_bind]
    cases e : f d <;> simp [List.filterMap_cons, e]
end PQ

/-! PQ.14: the draws -/
namespace PQ
open PySem PySem.Spec PyProof.Rows L2

def S__law_draws : ES := sCons (sSet 2 (mO (eLst (eNil)))) (sCons (sSet 3 (mF (eInt 7))) (sCons (sFor (iSeq (eCutS 0 (pNone) (pSome (eInt 63)))) (aName 4) (sCons (sSet 6 (mF (eA dAbs (eCons (eVar 4) (eNil))))) (sCons (sSet 3 (mF (e2 dMod (eA dInt (eCons (e2 dAdd (e2 dAdd (e2 dMul (eVar 3) (eInt 48271)) (eVar 6)) (eInt 11)) (eNil))) (eInt 2147483647)))) (sIf (tV (e2 dGe (eVar 6) (e2 dPow (eInt 10) (eInt 18)))) (sFor (iRg1 (eInt 60)) (aName 5) (sIf (tV (e2 dGt (eVar 6) (eInt 0))) (sCons (sApp 2 (e2 dMod (eA dInt (eCons (eVar 6) (eNil))) (eInt 1009))) (sSet 6 (mF (e2 dFdiv (eVar 6) (eInt 1009))))) (sNil)) [0, 4, 5]) (sApp 2 (e2 dMod (e2 dFdiv (eA dInt (eCons (e2 dAdd (e2 dMul (eVar 3) (eInt 16807)) (eInt 5)) (eNil))) (eInt 3)) (eInt 65521)))))) [0, 4, 5, 6]) (sCons (sFor (iRg1 (eVar 1)) (aName 5) (sIf (tBor 2 (tV (e2 dLt (eA dLen (eCons (eVar 2) (eNil))) (eVar 1)))) (sCons (sSet 3 (mF (e2 dMod (eA dInt (eCons (e2 dAdd (e2 dAdd (e2 dMul (eVar 3) (eInt 69621)) (eVar 5)) (eInt 1)) (eNil))) (eInt 2147483647)))) (sApp 2 (e2 dMod (e2 dFdiv (eA dInt (eCons (eVar 3) (eNil))) (eInt 7)) (eInt 65521)))) (sNil)) [0, 4, 5, 6]) (sFrz 2 (sRet (eCut (eVar 2) (pNone) (pSome (eVar 1))))))))
def F__law_draws := runS 7 S__law_draws
/-- a draw -/
def isDraw (d : D) : Prop := ∃ n : Int, d = .int n ∧ 0 ≤ n ∧ n < 65521
theorem mulOk_r {i j : Int} (h : j.natAbs < 18446744073709551616) : mulOk i j = true := by unfold mulOk; simp [h]
theorem rgD_get {lo hi : Int} {j : Nat} {d : D} (h : (rgD lo hi)[j]? = some d) : d = .int (lo + j) ∧ j < (hi - lo).toNat := by
  unfold rgD at h
  rw [List.getElem?_map] at h
  cases e : (List.range (hi - lo).toNat)[j]? with
  | none => rw [e] at h; cases h
  | some k =>
    rw [e] at h
    have hk := List.getElem?_eq_some_iff.mp e
    obtain ⟨hk1, hk2⟩ := hk
    rw [List.getElem_range] at hk2
    subst hk2
    cases h
    exact ⟨rfl, by simpa using hk1⟩
theorem rgD_len (lo hi : Int) : (rgD lo hi).length = (hi - lo).toNat := by unfold rgD; simp
theorem cut_take {α : Type} (xs : List α) (n : Nat) : cutL xs none (some (n : Int)) = xs.take n := by
  unfold cutL
  rw [show HT.sIx xs.length xs.length (some (n : Int)) = min n xs.length from HT.sIx_nat xs.length xs.length n, HT.sIx_none, Nat.sub_zero, List.drop_zero]
  rcases Nat.le_total n xs.length with h | h
  · rw [Nat.min_eq_left h]
  · rw [Nat.min_eq_right h, List.take_length, List.take_of_length_le h]
theorem big62_ok {i : Int} (h1 : 0 ≤ i) (h2 : i < 1000000000000) : big62 i = true := by
  obtain ⟨n, rfl⟩ := Int.eq_ofNat_of_zero_le h1
  show Nat.blt n 4611686018427387904 = true
  exact Nat.ble_eq_true_of_le (by omega)
theorem fits_ok {n : Nat} (h : n ≤ 16777216) : fits n = true := by unfold fits; simpa using h
theorem divOk_ok {j : Int} (h1 : 0 < j) (h2 : j < 1073741824) : divOk j = true := by unfold divOk; simp [h1, h2]
theorem isDraw_mod {i : Int} {j : Int} (h1 : 0 < j) (h2 : j ≤ 65521) : isDraw (.int (i % j)) := ⟨i % j, rfl, Int.emod_nonneg _ (by omega), by have := Int.emod_lt_of_pos i h1; omega⟩
theorem draws_inner (s m seed : Sl) (c1 c2 : Sl) : ∀ (ds : List D) (n : Int) (hn : 0 ≤ n), (∀ d ∈ ds, isDraw d) → ∀ (js : List D), ds.length + js.length ≤ 10000 → ∃ n' es, (∀ d ∈ es, isDraw d) ∧ es.length ≤ ds.length + js.length ∧
    forL (aName 5) (sIf (tV (e2 dGt (eVar 6) (eInt 0))) (sCons (sApp 2 (e2 dMod (eA dInt (eCons (eVar 6) (eNil))) (eInt 1009))) (sSet 6 (mF (e2 dFdiv (eVar 6) (eInt 1009))))) (sNil)) [0, 4, 5] js [.u, m, .o (.list ds), seed, .u, .u, .f (.int n)] = .nx [.u, m, .o (.list es), seed, .u, .u, .f (.int n')] := by
  intro ds n hn hd js hl
  induction js generalizing ds n with
  | nil => exact ⟨n, ds, hd, by simp, rfl⟩
  | cons j js ih =>
    rw [List.length_cons] at hl
    by_cases h : 0 < n
    · obtain ⟨n', es, h1, h2, h3⟩ := ih (ds ++ [.int (n % 1009)]) (n / 1009) (Int.ediv_nonneg hn (by omega)) (fun d hm => by
          rcases List.mem_append.mp hm with hm | hm
          · exact hd d hm
          · rw [List.mem_singleton] at hm; subst hm; exact isDraw_mod (by omega) (by omega)) (by simp; omega)
      refine ⟨n', es, h1, by simp at h2 ⊢; omega, ?_⟩
      refine forL_next [.u, m, .o (.list ds), seed, .u, .f j, .f (.int n)] [.u, m, .o (.list (ds ++ [.int (n % 1009)])), seed, .u, .f j, .f (.int (n / 1009))] (by rfl) ?_ (by rfl) h3
      have hf : fits (ds.length + 1) = true := fits_ok (by omega)
      simp [h, hf, divOk]
    · obtain ⟨n', es, h1, h2, h3⟩ := ih ds n hn hd (by omega)
      refine ⟨n', es, h1, by simp at h2 ⊢; omega, ?_⟩
      refine forL_next [.u, m, .o (.list ds), seed, .u, .f j, .f (.int n)] [.u, m, .o (.list ds), seed, .u, .f j, .f (.int n)] (by rfl) ?_ (by rfl) h3
      simp [h]
theorem draws_outer : ∀ (js : List Int) (ds : List D) (seed : Int) (m c4 : Sl) (k : Nat), (∀ d ∈ ds, isDraw d) → ds.length ≤ 60 * k → k + js.length ≤ 64 → ∃ es seed', (∀ d ∈ es, isDraw d) ∧ es.length ≤ 60 * (k + js.length) ∧
    forL (aName 4) (sCons (sSet 6 (mF (eA dAbs (eCons (eVar 4) (eNil))))) (sCons (sSet 3 (mF (e2 dMod (eA dInt (eCons (e2 dAdd (e2 dAdd (e2 dMul (eVar 3) (eInt 48271)) (eVar 6)) (eInt 11)) (eNil))) (eInt 2147483647)))) (sIf (tV (e2 dGe (eVar 6) (e2 dPow (eInt 10) (eInt 18)))) (sFor (iRg1 (eInt 60)) (aName 5) (sIf (tV (e2 dGt (eVar 6) (eInt 0))) (sCons (sApp 2 (e2 dMod (eA dInt (eCons (eVar 6) (eNil))) (eInt 1009))) (sSet 6 (mF (e2 dFdiv (eVar 6) (eInt 1009))))) (sNil)) [0, 4, 5]) (sApp 2 (e2 dMod (e2 dFdiv (eA dInt (eCons (e2 dAdd (e2 dMul (eVar 3) (eInt 16807)) (eInt 5)) (eNil))) (eInt 3)) (eInt 65521)))))) [0, 4, 5, 6]
      (js.map .int) [.u, m, .o (.list ds), .f (.int seed), .u, .u, .u] = .nx [.u, m, .o (.list es), .f (.int seed'), .u, .u, .u]
  | [], ds, seed, m, c4, k, hd, hl, hk => ⟨ds, seed, hd, by simpa using hl, rfl⟩
  | j :: js, ds, seed, m, c4, k, hd, hl, hk => by
    rw [List.length_cons] at hk
    have hm1 : mulOk seed 48271 = true := mulOk_r (by decide)
    have hm2 : ∀ s : Int, mulOk s 16807 = true := fun s => mulOk_r (by decide)
    have hb : big62 60 = true := by decide
    have hp : dPow (.int 10) (.int 18) = .ok (.int 1000000000000000000) := by rfl
    have hn : 0 ≤ (if j < 0 then -j else j) := by split <;> omega
    generalize hna : (if j < 0 then -j else j) = n at hn
    by_cases h : 1000000000000000000 ≤ n
    · obtain ⟨n', es, h1, h2, h3⟩ := draws_inner (.u) m (.f (.int ((seed * 48271 + n + 11) % 2147483647))) .u .u ds n hn hd (rgD 0 60) (by rw [rgD_len]; omega)
      rw [rgD_len] at h2
      obtain ⟨es', seed', g1, g2, g3⟩ := draws_outer js es ((seed * 48271 + n + 11) % 2147483647) m c4 (k + 1) h1 (by omega) (by omega)
      refine ⟨es', seed', g1, by rw [List.length_cons]; omega, ?_⟩
      rw [List.map_cons]
      refine forL_next [.u, m, .o (.list ds), .f (.int seed), .f (.int j), .u, .u] [.u, m, .o (.list es), .f (.int ((seed * 48271 + n + 11) % 2147483647)), .u, .u, .f (.int n')] (by rfl) ?_ (by rfl) g3
      simp [hna, hm1, hp, h, hb, h3]
    · obtain ⟨es', seed', g1, g2, g3⟩ := draws_outer js (ds ++ [.int ((((seed * 48271 + n + 11) % 2147483647) * 16807 + 5) / 3 % 65521)]) ((seed * 48271 + n + 11) % 2147483647) m c4 (k + 1) (fun d hm => by
          rcases List.mem_append.mp hm with hm | hm
          · exact hd d hm
          · rw [List.mem_singleton] at hm; subst hm; exact isDraw_mod (by omega) (by omega)) (by simp; omega) (by omega)
      refine ⟨es', seed', g1, by rw [List.length_cons]; omega, ?_⟩
      rw [List.map_cons]
      refine forL_next [.u, m, .o (.list ds), .f (.int seed), .f (.int j), .u, .u] [.u, m, .o (.list (ds ++ [.int ((((seed * 48271 + n + 11) % 2147483647) * 16807 + 5) / 3 % 65521)])), .f (.int ((seed * 48271 + n + 11) % 2147483647)), .f (.int j), .u, .f (.int n)] (by rfl) ?_ (by rfl) g3
      have hf : fits (ds.length + 1) = true := fits_ok (by omega)
      simp [hna, hm1, hm2, hp, h, hb, hf, divOk]
theorem draws_fill (M : Int) (hM : 0 ≤ M) : ∀ (js : List D) (ds : List D) (seed : Int) (i : Int), (∀ (t : Nat) (d : D), js[t]? = some d → d = .int (i + t)) → (∀ d ∈ ds, isDraw d) → ds.length + js.length ≤ 10000 → ∃ es seed', (∀ d ∈ es, isDraw d) ∧ es.length ≤ 10000 ∧ (M ≤ ds.length + js.length → M ≤ es.length) ∧
    forL (aName 5) (sIf (tBor 2 (tV (e2 dLt (eA dLen (eCons (eVar 2) (eNil))) (eVar 1)))) (sCons (sSet 3 (mF (e2 dMod (eA dInt (eCons (e2 dAdd (e2 dAdd (e2 dMul (eVar 3) (eInt 69621)) (eVar 5)) (eInt 1)) (eNil))) (eInt 2147483647)))) (sApp 2 (e2 dMod (e2 dFdiv (eA dInt (eCons (eVar 3) (eNil))) (eInt 7)) (eInt 65521)))) (sNil)) [0, 4, 5, 6]
      js [.u, .f (.int M), .o (.list ds), .f (.int seed), .u, .u, .u] = .nx [.u, .f (.int M), .o (.list es), .f (.int seed'), .u, .u, .u]
  | [], ds, seed, i, _, hd, hl => ⟨ds, seed, hd, by simpa using hl, fun h => by simpa using h, rfl⟩
  | j :: js, ds, seed, i, hj, hd, hl => by
    rw [List.length_cons] at hl
    have hj0 : j = .int i := by simpa using hj 0 j rfl
    have hjs : ∀ (t : Nat) (d : D), js[t]? = some d → d = .int ((i + 1) + t) := fun t d h => by
      have := hj (t + 1) d (by simpa using h)
      rw [this]; congr 1; omega
    subst hj0
    have hm1 : mulOk seed 69621 = true := mulOk_r (by decide)
    by_cases h : (ds.length : Int) < M
    · obtain ⟨es, seed', g1, g2, g3, g4⟩ := draws_fill M hM js (ds ++ [.int ((seed * 69621 + i + 1) % 2147483647 / 7 % 65521)]) ((seed * 69621 + i + 1) % 2147483647) (i + 1) hjs (fun d hm => by
          rcases List.mem_append.mp hm with hm | hm
          · exact hd d hm
          · rw [List.mem_singleton] at hm; subst hm; exact isDraw_mod (by omega) (by omega)) (by simp; omega)
      refine ⟨es, seed', g1, g2, fun q => g3 (by simp at q ⊢; omega), ?_⟩
      refine forL_next [.u, .f (.int M), .o (.list ds), .f (.int seed), .u, .f (.int i), .u] [.u, .f (.int M), .o (.list (ds ++ [.int ((seed * 69621 + i + 1) % 2147483647 / 7 % 65521)])), .f (.int ((seed * 69621 + i + 1) % 2147483647)), .u, .f (.int i), .u] (by rfl) ?_ (by rfl) g4
      have hf : fits (ds.length + 1) = true := fits_ok (by omega)
      simp [h, hm1, hf, divOk]
    · obtain ⟨es, seed', g1, g2, g3, g4⟩ := draws_fill M hM js ds seed (i + 1) hjs hd (by omega)
      refine ⟨es, seed', g1, g2, fun q => g3 (by simp at q ⊢; omega), ?_⟩
      refine forL_next [.u, .f (.int M), .o (.list ds), .f (.int seed), .u, .f (.int i), .u] [.u, .f (.int M), .o (.list ds), .f (.int seed), .u, .f (.int i), .u] (by rfl) ?_ (by rfl) g4
      simp [h]
/-- what _law_draws gives -/
theorem law_draws (ns : List Int) (hn : ns.length ≤ 63) (M : Nat) (hM : M ≤ 1000) : ∃ ds : List D, F__law_draws ns [.int M] = .ok (.list ds) ∧ ds.length = M ∧ ∀ d ∈ ds, isDraw d := by
  have hc : cutL (ns.map PyData.int) none (some (63 : Int)) = ns.map .int := by
    rw [show (63 : Int) = ((63 : Nat) : Int) from rfl, cut_take, List.take_of_length_le (by simpa using hn)]
  obtain ⟨es, seed', g1, g2, g3⟩ := draws_outer ns [] 7 (.f (.int M)) .u 0 (fun _ h => by cases h) (by simp) (by omega)
  obtain ⟨fs, seed2, k1, k2, k3, k4⟩ := draws_fill M (by omega) (rgD 0 M) es seed' 0 (fun t d h => (rgD_get h).1) g1 (by rw [rgD_len]; omega)
  refine ⟨fs.take M, ?_, by rw [List.length_take]; have := k3 (by rw [rgD_len]; omega); omega, fun d h => k1 d (List.mem_of_mem_take h)⟩
  have hb : big62 M = true := big62_ok (by omega) (by omega)
  have hcut := cut_take fs M
  simp [F__law_draws, runS, S__law_draws, frz, hc, g3, hb, k4, hcut]
end PQ

/-! PQ.15: how denotations compute: items, equality -/
namespace PQ
open PySem PySem.Spec PyProof.Rows L2

def oR {α : Type} : Option α → R α
  | some a => .ok a
  | none => .stuck
@[simp] theorem oR_some {α : Type} (a : α) : oR (some a) = .ok a := id rfl
@[simp] theorem x_ixL (ds : List D) (i : Int) : dIx (.list ds) (.int i) = oR (atI ds i) := by
  show (match atI ds i with
    | some d => R.ok d
    | none => .stuck) = _
  cases atI ds i <;> rfl
@[simp] theorem x_ixT (ds : List D) (i : Int) : dIx (.tuple ds) (.int i) = oR (atI ds i) := by
  show (match atI ds i with
    | some d => R.ok d
    | none => .stuck) = _
  cases atI ds i <;> rfl
theorem x_ixS (z : Str) (i : Int) : dIx (.str z) (.int i) = (oR (atI z.cps.toList i) >>= fun c => guardR (fits z.length) (PyData.str ⟨#[c]⟩)) := by
  show (match atI z.cps.toList i with
    | some c => guardR (fits z.length) (PyData.str ⟨#[c]⟩)
    | none => .stuck) = _
  cases atI z.cps.toList i <;> rfl
@[simp] theorem atI_0 {α : Type} (a : α) (l : List α) : atI (a :: l) 0 = some a := atI_nat (j := 0) rfl
@[simp] theorem atI_1 {α : Type} (a b : α) (l : List α) : atI (a :: b :: l) 1 = some b := atI_nat (j := 1) rfl
@[simp] theorem atI_2 {α : Type} (a b c : α) (l : List α) : atI (a :: b :: c :: l) 2 = some c := atI_nat (j := 2) rfl
@[simp] theorem atI_3 {α : Type} (a b c d : α) (l : List α) : atI (a :: b :: c :: d :: l) 3 = some d := atI_nat (j := 3) rfl
@[simp] theorem atI_4 {α : Type} (a b c d e : α) (l : List α) : atI (a :: b :: c :: d :: e :: l) 4 = some e := atI_nat (j := 4) rfl
@[simp] theorem atI_5 {α : Type} (a b c d e f : α) (l : List α) : atI (a :: b :: c :: d :: e :: f :: l) 5 = some f := atI_nat (j := 5) rfl
@[simp] theorem x_eqS (a b : Str) : dEq (.str a) (.str b) = .ok (.bool (a == b)) := by show guardR _ _ = _; rfl
@[simp] theorem x_eqI (a b : Int) : dEq (.int a) (.int b) = .ok (.bool (decide (a = b))) := by show guardR _ _ = _; rfl
@[simp] theorem x_eqB (a b : Bool) : dEq (.bool a) (.bool b) = .ok (.bool (a == b)) := by show guardR _ _ = _; rfl
@[simp] theorem x_neS (a b : Str) : dNe (.str a) (.str b) = .ok (.bool (!(a == b))) := by show guardR _ _ = _; rfl
@[simp] theorem x_neI (a b : Int) : dNe (.int a) (.int b) = .ok (.bool (!decide (a = b))) := by show guardR _ _ = _; rfl
theorem eqOk_of {x y : D} (h1 : x.plain = true) (h2 : y.plain = true) (h3 : min x.depth y.depth ≤ 60) : eqOk x y = true := by unfold eqOk; simp [h1, h2, h3]
mutual
theorem eqv_refl : ∀ d : D, d.plain = true → PyData.eqv d d = true
  | .none, _ => rfl
  | .bool b, _ => by simp [PyData.eqv]
  | .int b, _ => by simp [PyData.eqv]
  | .str b, _ => by simp [PyData.eqv]
  | .list xs, h => by
    have h : PyData.plainAll xs = true := h
    show PyData.eqvAll xs xs = true
    exact eqvs_refl xs h
  | .tuple xs, h => by
    have h : PyData.plainAll xs = true := h
    show PyData.eqvAll xs xs = true
    exact eqvs_refl xs h
  | .dict _, h => by cases h
theorem eqvs_refl : ∀ d : List D, PyData.plainAll d = true → PyData.eqvAll d d = true
  | [], _ => rfl
  | x :: xs, h => by
    have h : (x.plain && PyData.plainAll xs) = true := h
    rw [Bool.and_eq_true] at h
    show (PyData.eqv x x && PyData.eqvAll xs xs) = true
    rw [eqv_refl x h.1, eqvs_refl xs h.2]; rfl
end
theorem dNe_self {x : D} (h1 : x.plain = true) (h2 : x.depth ≤ 60) : dNe x x = .ok (.bool false) := by
  show guardR _ _ = _
  rw [eqOk_of h1 h1 (by omega), eqv_refl x h1]; rfl
theorem dEq_self {x : D} (h1 : x.plain = true) (h2 : x.depth ≤ 60) : dEq x x = .ok (.bool true) := by
  show guardR _ _ = _
  rw [eqOk_of h1 h1 (by omega), eqv_refl x h1]; rfl
theorem plain_strs : ∀ ss : List Str, PyData.plainAll (ss.map .str) = true
  | [] => rfl
  | s :: ss => by show (true && _) = true; rw [plain_strs ss]; rfl
theorem plain_ints : ∀ ss : List Int, PyData.plainAll (ss.map .int) = true
  | [] => rfl
  | s :: ss => by show (true && _) = true; rw [plain_ints ss]; rfl
theorem big62_lit {i : Int} (h : big62 i = true) : big62 i = true := h
@[simp] theorem x_guardT {α : Type} {c : Bool} (a : α) (h : c = true) : guardR c a = .ok a := by rw [h]; rfl
@[simp] theorem thn_ite {c : Prop} [Decidable c] (a b : Out) (k : ES) : (if c then a else b).thn k = if c then a.thn k else b.thn k := by split <;> rfl
@[simp] theorem bind_ite {α β : Type} {c : Prop} [Decidable c] (a b : R α) (f : α → R β) : ((if c then a else b) >>= f) = if c then a >>= f else b >>= f := by split <;> rfl
@[simp] theorem of_ite {α : Type} {c : Prop} [Decidable c] (a b : R α) (ρ : Rho) (k : α → Out) : Out.of (if c then a else b) ρ k = if c then Out.of a ρ k else Out.of b ρ k := by split <;> rfl
@[simp] theorem res_ite {c : Prop} [Decidable c] (a b : Out) : (if c then a else b).res = if c then a.res else b.res := by split <;> rfl
theorem whN_0 {T : ET} {B : ES} {ks : List Nat} {n : Nat} {ρ : Rho} (h : T ρ = .ok false) : whN T B ks (n + 1) ρ = .nx ρ := by rw [whN, h]; rfl
theorem whN_1 {T : ET} {B : ES} {ks : List Nat} {n : Nat} {ρ ρ2 ρ3 : Rho} {o : Out} (h : T ρ = .ok true) (h2 : B ρ = .nx ρ2) (hw : wipeR ρ2 ks = ρ3) (h3 : whN T B ks n ρ3 = o) : whN T B ks (n + 1) ρ = o := by
  rw [whN, h]
  show (match B ρ with
    | .nx ρ2 => whN T B ks n (wipeR ρ2 ks)
    | .ct ρ2 => whN T B ks n (wipeR ρ2 ks)
    | .bk ρ2 => .nx (wipeR ρ2 ks)
    | o => o) = o
  rw [h2]
  show whN T B ks n (wipeR ρ2 ks) = o
  rw [hw, h3]
theorem compR_map {α : Type} {step : D → R (Option D)} (φ : α → D) (P : α → Bool) (g : α → D) : ∀ (xs : List α), (∀ x ∈ xs, step (φ x) = .ok (if P x = true then some (g x) else none)) → compR step (xs.map φ) = .ok ((xs.filter P).map g)
  | [], _ => rfl
  | x :: xs, h => by
    rw [List.map_cons, compR, h x List.mem_cons_self, R.ok_bind, compR_map φ P g xs fun y hy => h y (List.mem_cons_of_mem _ hy), R.ok_bind]
    cases e : P x <;> simp [List.filter_cons, e]
theorem compR_all {α : Type} {step : D → R (Option D)} (φ : α → D) (g : α → D) (xs : List α) (h : ∀ x ∈ xs, step (φ x) = .ok (some (g x))) : compR step (xs.map φ) = .ok (xs.map g) := by
  have := compR_map (step := step) φ (fun _ => true) g xs (fun x hx => by rw [h x hx]; rfl)
  rw [this]
  congr 2
  simp
theorem forL_const {A : EG} {B : ES} {ks : List Nat} {ρ : Rho} : ∀ ds : List D, (∀ d ∈ ds, ∃ ρ1 ρ2, A d ρ = .ok ρ1 ∧ B ρ1 = .nx ρ2 ∧ wipeR ρ2 ks = ρ) → forL A B ks ds ρ = .nx ρ
  | [], _ => rfl
  | d :: ds, h => by
    obtain ⟨ρ1, ρ2, h1, h2, h3⟩ := h d List.mem_cons_self
    exact forL_next ρ1 ρ2 h1 h2 h3 (forL_const ds fun e he => h e (List.mem_cons_of_mem _ he))
theorem rgD_nat (m : Nat) : rgD 0 m = (List.range m).map fun (k : Nat) => PyData.int k := by
  unfold rgD
  rw [show ((m : Int) - 0).toNat = m by omega]
  congr 1
  funext k
  congr 1
  omega
end PQ

/-! PQ.16: t[i::k] of tuples -/
namespace PQ
open PySem PySem.Spec PyProof.Rows L2

/-- t[i::k] -/
def strideN (n i k : Nat) : Nat := if i < n then (n - i - 1) / k + 1 else 0
def strideL {α : Type} (xs : List α) (i k : Nat) : List α := (List.range (strideN xs.length i k)).filterMap fun m => xs[i + m * k]?
section
variable {prog : Program} {w : World} {A : Around} {E : Value → Shared → Prop} {s : Shared}
theorem places_stride {n i k : Nat} (hk : 0 < k) : Builtin.Slice.slicePlaces (i : Int) (n : Int) (k : Int) = strideN n i k := by
  unfold Builtin.Slice.slicePlaces strideN
  have h1 : (k : Int) > 0 := by omega
  simp only [h1, if_true]
  by_cases h : i < n
  · have h2 : (i : Int) < n := by omega
    simp only [h, h2, if_true]
    have e : (n : Int) - i - 1 = ((n - i - 1 : Nat) : Int) := by omega
    rw [e, ← Int.natCast_ediv]
    generalize (n - i - 1) / k = z
    omega
  · have h2 : ¬ (i : Int) < n := by omega
    simp only [h, h2, if_false]
    rfl
theorem adjust_stride (lo : Option Int) {i k n : Nat} (hk : 0 < k) (hi : lo = some (i : Int) ∨ (lo = none ∧ i = 0)) : Builtin.Slice.sliceAdjust lo none (k : Int) (n : Int) = (((min i n : Nat) : Int), (n : Int)) := by
  have h1 : ¬ ((k : Int) < 0) := by omega
  unfold Builtin.Slice.sliceAdjust
  simp only [h1, if_false]
  rcases hi with rfl | ⟨rfl, rfl⟩
  · have : ¬ (i : Int) < 0 := by omega
    simp only [this, if_false]
    refine Prod.ext ?_ rfl
    show min (i : Int) n = _
    omega
  · refine Prod.ext ?_ rfl
    show (0 : Int) = _
    omega
theorem stride_min {α : Type} (xs : List α) (i k : Nat) : strideL xs (min i xs.length) k = strideL xs i k := by
  unfold strideL strideN
  by_cases h : i < xs.length
  · rw [Nat.min_eq_left (by omega)]
  · rw [Nat.min_eq_right (by omega), if_neg (by omega), if_neg h]; rfl
theorem getItem_tuple_stride {t sl : Addr} {items : Array Value} {vl vs : Value} {lo : Option Int} {i k : Nat} {Q : Value → Shared → Prop} (ht : IsTup s.heap t items) (hs : s.heap.IsSliceOf sl vl .none vs) (pl : IsPart vl lo) (ps : IsPart vs (some (k : Int))) (hk : 1 < k)
    (hi : lo = some (i : Int) ∨ (lo = none ∧ i = 0))
    (h : Q (.ref s.heap.objs.size) { s with heap := s.heap.push { cls := .type "tuple", data := .seq (strideL items.toList i k).toArray } })
    (hsz : items.size ≤ sizeLine) : wpAny (model prog w) A (getItem (.ref t) (.ref sl)) Q E s := by
  have hle : strideN items.size i k ≤ items.size := by
    unfold strideN
    split
    · have := Nat.div_le_self (items.size - i - 1) k
      omega
    · omega
  have htake : sizeOk (.seq (strideL items.toList i k).toArray) := by
    show (strideL items.toList i k).toArray.size ≤ sizeLine
    rw [List.size_toArray]
    unfold strideL
    have := List.length_filterMap_le (fun m => items.toList[i + m * k]?) (List.range (strideN items.toList.length i k))
    have el : items.toList.length = items.size := by simp
    rw [List.length_range, el] at this
    rw [el]
    omega
  obtain ⟨os, hos, hcs, hds⟩ := id hs
  have hTs : s.TypeIs (.ref sl) "slice" := ⟨os, hos, hcs⟩
  unfold getItem
  try with_reducible refine wpAny_holding ?_
  first | refine wpAny_bind (wpAny_pure ?_) | skip
  refine wpAny_bind (wpAny_sequenceKey ht.typeIs (by decide) ?_)
  refine wpAny_bind (wpAny_callSpecial?_slot (name := Str.ofString "__getitem__") ht.typeIs PyProof.Rows.slot_tuple_getitem
    (wpAny_call_entry PyProof.Rows.slot_tuple_getitem ht.typeIs entry_tuple_getitem ?_ (args_tuple_getitem _ _)))
  show wpAny _ _ (Builtin.Tuple.tupleItemsOf (.ref t) >>= _) _ _ s
  refine wpAny_bind (tupleItemsOf_ ht ?_)
  refine wpAny_bind (wpAny_typeOf hTs ?_)
  rw [if_pos (by decide)]
  refine wpAny_bind ?_
  unfold Builtin.Slice.sliceApplied Builtin.Slice.sliceFields
  refine wpAny_bind (wpAny_bind (wpAny_field hos hds (x := vl) rfl (wpAny_bind (wpAny_field hos hds (x := .none) rfl (wpAny_bind (wpAny_field hos hds (x := vs) rfl (wpAny_pure ?_)))))))
  refine wpAny_bind (HT.slicePart_ ps ?_)
  have hk0 : ¬ (((k : Int) == 0) = true) := by
    rw [beq_iff_eq]; omega
  show wpAny _ _ (if ((k : Int) == 0) = true then _ else _) _ _ s
  rw [if_neg hk0]
  refine wpAny_bind (HT.slicePart_ pl (wpAny_bind (HT.slicePart_ .none (wpAny_bind (wpAny_pure ?_)))))
  show wpAny _ _ (match Builtin.Slice.sliceAdjust lo none (k : Int) ((items.size : Nat) : Int) with | (lo, hi) => pure (lo, (k : Int), Builtin.Slice.slicePlaces lo hi (k : Int))) _ _ s
  rw [adjust_stride lo (by omega) hi]
  show wpAny _ _ (pure (((min i items.size : Nat) : Int), (k : Int), Builtin.Slice.slicePlaces ((min i items.size : Nat) : Int) (items.size : Int) (k : Int))) _ _ s
  rw [places_stride (by omega)]
  refine wpAny_pure ?_
  have hno : ¬ ((((min i items.size : Nat) : Int) == 0 && (k : Int) == 1 && strideN items.size (min i items.size) k == items.size) = true) := by
    intro q
    rw [Bool.and_eq_true, Bool.and_eq_true] at q
    have q1 : (k : Int) = 1 := eq_of_beq q.1.2
    omega
  show wpAny _ _ (if (((min i items.size : Nat) : Int) == 0 && (k : Int) == 1 && strideN items.size (min i items.size) k == items.size) = true then _ else _) _ _ s
  rw [if_neg hno]
  have e : ((List.range (strideN items.size (min i items.size) k)).filterMap fun (m : Nat) => items[(((min i items.size : Nat) : Int) + (m : Int) * (k : Int)).toNat]?).toArray = (strideL items.toList i k).toArray := by
    congr 1
    rw [← stride_min]
    unfold strideL
    rw [Array.length_toList]
    congr 1
    funext m
    have : (((min i items.size : Nat) : Int) + (m : Int) * (k : Int)).toNat = min i items.size + m * k := by
      rw [← Int.natCast_mul]; omega
    rw [this, Array.getElem?_toList]
  rw [e]
  first
    | exact wpAny_bind (m := Builtin.Tuple.tupleExact _) (wpAny_newObj_type (wpAny_pure ⟨_, rfl, wpAny_pure h⟩) htake)
    | exact wpAny_bind (m := Builtin.Tuple.tupleExact _) (wpAny_newObj_type (wpAny_bind (wpAny_pure (wpAny_pure ⟨_, rfl, wpAny_pure h⟩))) htake)
    | exact wpAny_bind (wpAny_bind (m := Builtin.Tuple.tupleExact _) (wpAny_newObj_type (wpAny_pure (wpAny_pure ⟨_, rfl, wpAny_pure h⟩)) htake))
    | exact wpAny_bind (wpAny_bind (m := Builtin.Tuple.tupleExact _) (wpAny_newObj_type (wpAny_pure ⟨_, rfl, wpAny_pure h⟩) htake))
end
section
variable {X : Cx} {W : WX} {a b c e : Expr} {es rest : List Expr} {pos p : Pos} {F G I : EV} {T U : ET} {Fs : EA}
def asT : D → R (List D)
  | .tuple ds => .ok ds
  | _ => .stuck
def dStr2 (k : Nat) (ds : List D) : Option Int → R D
  | none => .ok (.tuple (strideL ds 0 k))
  | some i => if 0 ≤ i then .ok (.tuple (strideL ds i.toNat k)) else .stuck
theorem rd_tup {w : World} {K : PySem.W.Frag} {Z : Hp} {v : V} {ds : List D} (h : RD w K Z v (.tuple ds)) : ∃ a xs, v = .ref a ∧ SqT K Z a xs ∧ RDs w K Z xs ds := by
  cases h with
  | tup h r => exact ⟨_, _, rfl, h, r⟩
def eStride (F : EV) (k : Nat) (P : EP') : EV := fun ρ => F ρ >>= fun x => asT x >>= fun ds => P ρ >>= fun lo => dStr2 k ds lo
theorem RDs.pick {w : World} {K : PySem.W.Frag} {Z : Hp} {vs : List V} {ds : List D} (r : RDs w K Z vs ds) (f : Nat → Nat) : ∀ is : List Nat, RDs w K Z (is.filterMap fun m => vs[f m]?) (is.filterMap fun m => ds[f m]?)
  | [] => .nil
  | i :: is => by
    rw [List.filterMap_cons, List.filterMap_cons]
    cases e : ds[f i]? with
    | none =>
      have : vs[f i]? = none := by
        rw [List.getElem?_eq_none_iff] at e ⊢
        rw [r.length]; exact e
      rw [this]
      exact RDs.pick r f is
    | some d =>
      obtain ⟨v, hv, rv⟩ := r.get e
      rw [hv]
      exact .cons rv (RDs.pick r f is)
theorem vals_pick {xs : List V} {us : List Value} (r : Vals xs us) (f : Nat → Nat) : ∀ is : List Nat, Vals (is.filterMap fun m => xs[f m]?) (is.filterMap fun m => us[f m]?)
  | [] => .nil
  | i :: is => by
    rw [List.filterMap_cons, List.filterMap_cons]
    cases e : xs[f i]? with
    | none =>
      have : us[f i]? = none := Vals.none_of r e
      rw [this]
      exact vals_pick r f is
    | some d =>
      obtain ⟨v, hv, rv⟩ := Vals.get r e
      rw [hv]
      exact .cons rv (vals_pick r f is)
theorem ev_stride {k : Nat} {j} {lo : Option Expr} {P : EP'} {p2 p3 : Pos} (ha : Ev X W a F) (hl : Ep X W lo P) (hk : 1 < k := by decide) : Ev X W (.Subscript a (.Slice lo none (some (.Constant (.int (k : Int)) j p3)) p2) pos) (eStride F k P) := by
  refine ⟨fun {Z0 H0 Z H σ ρ Q} r q pins s I => ?_⟩
  have g : PEat X a σ H (fun x H1 => ∃ xs b, x = V.ref b ∧ SqT X.K H1 b xs ∧ (∀ (pins : List (Addr × Obj)) (s : Shared), Inv X pins σ H1 s → wpAny (model X.prog X.w) X.A (evalPart lo X.env) (fun u s' => ∃ o H', Inv X pins σ H' s' ∧ IsPart u o ∧ ∃ i : Nat, (o = some (i : Int) ∨ (o = none ∧ i = 0)) ∧ SqT X.K H' b xs ∧ ∀ p, H' p = none → Q (.ref p) (upd H' p (.tup (strideL xs i k)))) X.xe s)) := by
    refine ha.go r (q.bind.mono fun d hd v Z1 H1 x1 r1 => ?_)
    have hd := hd.bind
    cases d with
    | tuple ds =>
      obtain ⟨b, xs, rfl, h1, r1⟩ := rd_tup r1
      refine ⟨xs, b, rfl, SqT.mono x1.zh h1, fun pins s I => ?_⟩
      refine hl.go (r.step x1) (Q := fun o H' => ∃ i : Nat, (o = some (i : Int) ∨ (o = none ∧ i = 0)) ∧ SqT X.K H' b xs ∧ ∀ p, H' p = none → Q (.ref p) (upd H' p (.tup (strideL xs i k)))) ((hd.bind.step x1).mono fun o ho Z2 H2 x2 => ?_) pins s I
      have fin : ∀ i : Nat, Post X W Z H σ (.ok (.tuple (strideL ds i k)) : R D) (QV X Z H Q) → ∀ p, H2 p = none → Q (.ref p) (upd H2 p (.tup (strideL xs i k))) := by
        intro i q p hp
        refine q _ _ _ ((x1.trans x2).trans (Ext.new x2.zh hp)) (.tup (.inl (.inl upd_same)) ?_)
        unfold strideL
        rw [r1.length]
        exact ((r1.mono x2.zz).mono (Ext.new (o := .tup _) x2.zh hp).zz).pick (fun m => i + m * k) _
      cases o with
      | none => exact ⟨0, .inr ⟨rfl, rfl⟩, SqT.mono (x2.hh) (SqT.mono x1.zh h1), fin 0 ho⟩
      | some i =>
        have ho : Post X W Z H σ (if 0 ≤ i then .ok (.tuple (strideL ds i.toNat k)) else .stuck : R D) (QV X Z H Q) := ho
        split at ho
        · exact ⟨i.toNat, .inl (by congr 1; omega), SqT.mono (x2.hh) (SqT.mono x1.zh h1), fin _ ho⟩
        · exact ho.elim
    | _ => exact hd.elim
  refine Subscript_ (thn (g pins s I) fun v s1 ⟨x, H1, I1, r1, xs, b, ex, hx, q1⟩ => ?_)
  subst ex
  cases r1
  refine wpAny_Slice (thn (q1 pins s1 I1) fun vl s2 ⟨o, H2, I2, pl, i, hi, hx2, q2⟩ => ?_)
  refine thn (po_none.run pins s2 σ H2 (fun o H3 => o = none ∧ H3 = H2) I2 ⟨rfl, rfl⟩) fun vu s3 ⟨u, H3, I3, pu, eu, e3⟩ => ?_
  subst eu e3
  cases pu
  refine thn ((show PO X (some (.Constant (.int (k : Int)) j p3)) _ from po_some pe_int).run pins s3 σ H3 (fun o H4 => o = some (k : Int) ∧ H4 = H3) I3 ⟨(k : Int), rfl, rfl, rfl⟩) fun vs s4 ⟨o, H4, I4, ps, eo, e4⟩ => ?_
  subst eo e4
  have I5 : Inv X pins σ H4 { s4 with heap := s4.heap.push { cls := .type "slice", data := .fields #[vl, .none, vs] } } := I4.kept (t' := s4.toks) fun b ob q => Heap.get?_push_of_some _ q
  obtain ⟨its, r, ht, hz⟩ := I5.tuple hx2
  have hlen := r.length
  show wpAny (model X.prog X.w) X.A (subscriptTail a (.Slice lo none (some (.Constant (.int (k : Int)) j p3)) p2) (.ref b) (.ref s4.heap.objs.size)) (EP X pins σ Q) X.xe { s4 with heap := s4.heap.push { cls := .type "slice", data := .fields #[vl, .none, vs] } }
  refine tail_any (ops := [.ref b, .ref s4.heap.objs.size]) ht.typeIs (PyProof.Rows.slot_tuple_getitem.lookup) ?_ (by with_unfolding_all rfl)
  refine getItem_tuple_stride ht (Heap.IsSliceOf.new _ vl .none vs) pl ps hk hi ?_ (by rw [List.size_toArray]; omega)
  refine ⟨.ref _, _, I5.laid (t' := s4.toks) (o := .tup (strideL xs i k)) (fun b ob q => Heap.get?_push_of_some _ q) (Nat.le_refl _) ?_, rfl, q2 _ (I5.hok.fresh (Nat.le_refl _))⟩
  refine ⟨?_, strideL its i k, ?_, ?_⟩
  · unfold strideL
    have := List.length_filterMap_le (fun m => xs[i + m * k]?) (List.range (strideN xs.length i k))
    rw [List.length_range] at this
    have h2 : strideN xs.length i k ≤ xs.length := by
      unfold strideN
      split
      · have := Nat.div_le_self (xs.length - i - 1) k
        omega
      · omega
    omega
  · unfold strideL
    rw [hlen]
    exact vals_pick r (fun m => i + m * k) _
  · exact IsTup.new _ _
end
end PQ

/-! PQ.17: three names at once; an if as a test -/
namespace PQ
open PySem PySem.Spec PyProof.Rows L2
section
variable {X : Cx} {W : WX} {a b c e : Expr} {es rest : List Expr} {pos p : Pos} {F G I : EV} {T U : ET} {Fs : EA}
@[simp] theorem x_asT (ds : List D) : asT (.tuple ds) = .ok ds := id rfl
@[simp] theorem x_eStride (F : EV) (k : Nat) (P : EP') (ρ : Rho) : eStride F k P ρ = (F ρ >>= fun x => asT x >>= fun ds => P ρ >>= fun lo => dStr2 k ds lo) := id rfl
@[simp] theorem x_dStr2n (k : Nat) (ds : List D) : dStr2 k ds none = .ok (.tuple (strideL ds 0 k)) := id rfl
@[simp] theorem x_dStr2s (k : Nat) (ds : List D) (i : Int) : dStr2 k ds (some i) = if 0 ≤ i then .ok (.tuple (strideL ds i.toNat k)) else .stuck := id rfl
/-- every other item -/
def evens {α : Type} : List α → List α
  | [] => []
  | [a] => [a]
  | a :: _ :: r => a :: evens r
def odds {α : Type} (l : List α) : List α := evens l.tail
theorem evens_len {α : Type} : ∀ l : List α, (evens l).length = (l.length + 1) / 2
  | [] => by simp [evens]
  | [_] => by simp [evens]
  | a :: b :: r => by
    rw [evens, List.length_cons, evens_len r, List.length_cons, List.length_cons]
    omega
theorem odds_len {α : Type} (l : List α) : (odds l).length = l.length / 2 := by
  unfold odds
  rw [evens_len, List.length_tail]
  omega
theorem evens_get {α : Type} : ∀ (l : List α) (i : Nat), (evens l)[i]? = l[2 * i]?
  | [], i => by simp [evens]
  | [a], 0 => rfl
  | [a], i + 1 => by simp [evens]
  | a :: b :: r, 0 => rfl
  | a :: b :: r, i + 1 => by
    rw [evens, List.getElem?_cons_succ, evens_get r i, show 2 * (i + 1) = 2 * i + 1 + 1 by omega, List.getElem?_cons_succ, List.getElem?_cons_succ]
theorem odds_get {α : Type} (l : List α) (i : Nat) : (odds l)[i]? = l[2 * i + 1]? := by
  unfold odds
  rw [evens_get, List.getElem?_tail]
theorem filterMap_len {α : Type} (f : Nat → Option α) : ∀ n : Nat, (∀ i, i < n → (f i).isSome = true) → ((List.range n).filterMap f).length = n := by
  intro n h
  induction n with
  | zero => rfl
  | succ n ih =>
    rw [List.range_succ, List.filterMap_append, List.length_append, ih fun m hm => h m (by omega)]
    have := h n (by omega)
    cases q : f n with
    | none => rw [q] at this; cases this
    | some x => simp [q]
theorem filterMap_get {α : Type} (f : Nat → Option α) : ∀ n : Nat, (∀ i, i < n → (f i).isSome = true) → ∀ j, j < n → ((List.range n).filterMap f)[j]? = f j := by
  intro n
  induction n with
  | zero => intro _ j h; omega
  | succ n ih =>
    intro h j hj
    have hl : ((List.range n).filterMap f).length = n := filterMap_len f n fun i hi => h i (by omega)
    rw [List.range_succ, List.filterMap_append]
    by_cases e : j < n
    · rw [List.getElem?_append_left (by omega)]
      exact ih (fun i hi => h i (by omega)) j e
    · have : j = n := by omega
      subst this
      rw [List.getElem?_append_right (by omega), hl]
      have := h j (by omega)
      cases q : f j with
      | none => rw [q] at this; cases this
      | some x => simp [q]
theorem stride_len {α : Type} (l : List α) (i : Nat) : (strideL l i 2).length = strideN l.length i 2 := by
  unfold strideL
  have h : ∀ m, m < strideN l.length i 2 → (l[i + m * 2]?).isSome = true := by
    intro m hm
    unfold strideN at hm
    split at hm
    · rw [List.getElem?_eq_getElem (by omega)]; rfl
    · omega
  exact filterMap_len _ _ h
theorem stride_get {α : Type} (l : List α) (i j : Nat) : (strideL l i 2)[j]? = l[i + 2 * j]? := by
  by_cases hj : j < strideN l.length i 2
  · unfold strideL
    rw [filterMap_get _ _ (fun m hm => ?_) j hj, Nat.mul_comm]
    unfold strideN at hm
    split at hm
    · rw [List.getElem?_eq_getElem (by omega)]; rfl
    · omega
  · rw [List.getElem?_eq_none (by rw [stride_len]; omega)]
    unfold strideN at hj
    symm
    rw [List.getElem?_eq_none_iff]
    split at hj <;> omega
theorem stride0 {α : Type} (l : List α) : strideL l 0 2 = evens l := by
  apply List.ext_getElem?
  intro j
  rw [stride_get, evens_get, Nat.zero_add]
theorem stride1 {α : Type} (l : List α) : strideL l 1 2 = odds l := by
  apply List.ext_getElem?
  intro j
  rw [stride_get, odds_get, Nat.add_comm]
end
end PQ

/-! PQ.18: sorted(x) of a list or a tuple -/
namespace PQ
open PySem PySem.Spec PyProof.Rows L2
open PySem.W (alike alikeAll dataLt rcLt_alike AllAlike Sortable SortsAt EachIs copyHeap sortingHeap dataLe dataKind sortVals)

section
variable {prog : Program} {w : World} {A : Around} {E : Value → Shared → Prop} {s : Shared}
/-- what collect(v) leaves: the items vs, in a list of its own behind the heap -/
def Collects (prog : Program) (w : World) (s : Shared) (v : Value) (vs : List Value) : Prop := ∀ (A : Around) (E : Value → Shared → Prop) (Q : List Value → Shared → Prop),
  Q vs { s with heap := (s.heap.push (seqObj "list" #[] 0)).update s.heap.objs.size (Obj.mapSeq (· ++ vs.toArray)) } → wpAny (model prog w) A (collect v) Q E s
theorem collects_list {l : Addr} {vs : List Value} (hl : s.heap.IsList l vs.toArray) (hz : vs.length ≤ sizeLine) : Collects prog w s (.ref l) vs := fun _ _ _ q => collect_list hl q hz
theorem collects_tup {l : Addr} {vs : List Value} (hl : IsTup s.heap l vs.toArray) (hz : vs.length ≤ sizeLine) : Collects prog w s (.ref l) vs := by
  intro A E Q q
  obtain ⟨o, ho, hc, n, hd⟩ := id hl
  unfold collect
  refine wpAny_bind (wpAny_runValue (codeAny_builtin entry_proto_collect' ?_))
  show wpAny _ _ (do again (.builtin "list.__iadd__" ⟨[← newList [], .ref l], []⟩)) _ _ s
  refine wpAny_bind (wpAny_newList (wpAny_pure ⟨Code.quiet_builtin _ (by decide +kernel), codeAny_builtin entry_list_iadd' ?_⟩))
  show wpAny _ _ (Builtin.List.listExtendWith (.ref s.heap.objs.size) (.ref l) (.ref s.heap.objs.size)) _ _ { s with heap := s.heap.push (seqObj "list" #[] 0) }
  unfold Builtin.List.listExtendWith
  have ho2 : (s.heap.push (seqObj "list" #[] 0)).get? l = some o := Heap.get?_push_of_some _ ho
  refine wpAny_bind (wpAny_typeOf (T := "tuple") ⟨o, ho2, hc⟩ ?_)
  have ht : (Value.type "tuple" == Value.type "tuple") = true := by rfl
  rw [if_pos (by rw [ht]; simp)]
  refine wpAny_bind (listItems_at ho2 hd ?_)
  refine wpAny_bind (listItems_at (xs := #[]) (n := 0) (Heap.get?_push_size _ rfl) rfl ?_)
  rw [if_neg (by simp)]
  refine wpAny_bind (listUpdate_at (xs := #[]) (n := 0) (Heap.get?_push_size _ rfl) rfl ?_ (Nat.zero_le _) (by show (#[] ++ vs.toArray).size ≤ sizeLine + 1; simp only [Array.size_append, List.size_toArray, List.length_nil]; omega))
  refine wpAny_pure ?_
  show wpAny (model prog w) A (do
      let o ← load s.heap.objs.size
      match o.data with
      | .seq xs _ => pure xs.toList
      | _ => unsupported "internal:collect") Q E { s with heap := (s.heap.push (seqObj "list" #[] 0)).update s.heap.objs.size (Obj.mapSeq (· ++ vs.toArray)) }
  refine wpAny_bind (wpAny_load (get?_update_seq (Heap.get?_push_size _ rfl) _) ?_)
  show wpAny _ _ (pure ((#[] : Array Value) ++ vs.toArray).toList) Q E _
  rw [show ((#[] : Array Value) ++ vs.toArray).toList = vs by simp]
  exact wpAny_pure q
theorem sorted_from {v : Value} {vs : List Value} {κ : KeyKind} {Q : Value → Shared → Prop} (hcol : Collects prog w s v vs) (S : SortsAt prog w A.in1.in1 { s with heap := sortingHeap (copyHeap s.heap vs) (s.heap.objs.size + 1) vs } κ vs) (hL : vs.length ≤ sizeLine)
    (h : Q (.ref (s.heap.objs.size + 1)) { s with heap := sortedAll s.heap vs (sortVals κ false vs vs).toArray }) : wpAny (model prog w) A (call (.builtin "sorted") [v]) Q E s := by
  refine PySem.Calls.call_function_entry kind_sorted plain_sorted entry_sorted (args_sorted1 _) ?_
  unfold Builtin.«sorted»
  refine wpAny_bind (m := checkCount "sorted" 1 1 _) (wpAny_pure ?_)
  refine wpAny_bind (hcol _ _ _ ?_)
  refine wpAny_bind (wpAny_newList ?_ hL)
  have hsz : ((s.heap.push (seqObj "list" #[] 0)).update s.heap.objs.size (Obj.mapSeq (· ++ vs.toArray))).objs.size = s.heap.objs.size + 1 := by
    rw [Heap.size_update, size_push']
  show wpAny _ _ _ _ _ { s with heap := copyHeap s.heap vs }
  rw [hsz]
  refine wpAny_bind (wpAny_holding (wpAny_call_entry_kw slot_list_sort ⟨_, PySem.W.copyHeap_at s.heap vs, rfl⟩ entry_list_sort ?body (args_list_sort _)))
  case body =>
    show wpAny (model prog w) A.in1.in1 (Builtin.«list.sort» ⟨[.ref (s.heap.objs.size + 1)], []⟩) _ _ _
    exact PySem.W.list_sort_vals (s := { s with heap := copyHeap s.heap vs }) (PySem.W.copyHeap_at s.heap vs) S hL ⟨_, rfl, wpAny_pure ⟨_, rfl, h⟩⟩
/-- at most one item: nothing is compared -/
theorem SortsAt.one {vs : List Value} {ds : List D} (e : EachIs (fun v d => ∃ as, Reads s.heap v d as) vs ds) (hal : AllAlike ds) (h1 : ds.length ≤ 1) (hn : ∀ d ∈ ds, d ≠ .none) (hu : ∀ d, d ∈ ds → A.units + d.depth < cLine) : SortsAt prog w A s (dataKind s.heap ds) vs := by
  refine ⟨fun v hv => ?_, ⟨general', ?_, fun h2 => absurd h2 (by rw [e.length]; omega)⟩⟩
  · obtain ⟨d, hd, as, r⟩ := e.left v hv
    exact ⟨_, PySem.W.dataKind_some hal hd r⟩
  · intro E x y a b Q ha hb hq
    obtain ⟨d, as, hd, ra, rfl⟩ := PySem.W.dataKind_inv ha
    obtain ⟨d', as', hd', rb, rfl⟩ := PySem.W.dataKind_inv hb
    have hdd := hal d hd d' hd'
    show wpAny (model prog w) A (oneLt' false x y) Q E s
    exact PySem.W.oneLt_alike (fun z => absurd z Bool.false_ne_true) ra rb hdd (hn d hd) (Nat.lt_of_le_of_lt (Nat.add_le_add_left (Nat.min_le_left _ _) _) (hu d hd)) hq
theorem SortsAt.keepU {vs : List Value} {ds : List D} (e : EachIs (fun v d => ∃ as, Reads s.heap v d as) vs ds) (hal : AllAlike ds) (hk : Sortable ds ∨ (ds.length ≤ 1 ∧ ∀ d ∈ ds, d ≠ .none)) (hu : ∀ d, d ∈ ds → A.units + d.depth < cLine) : SortsAt prog w A s (dataKind s.heap ds) vs := by
  rcases hk with hk | ⟨h1, h2⟩
  · exact PySem.W.SortsAt.data e hal hk hu
  · exact SortsAt.one e hal h1 h2 hu
/-- sorted(v), v's items read as ds -/
theorem sorted_ds {v : Value} {vs : List Value} {ds : List D} {R : Value → D → Prop} {Q : Value → Shared → Prop} (hcol : Collects prog w s v vs) (e : EachIs R vs ds) (er : EachIs (fun v d => ∃ as, Reads s.heap v d as) vs ds) (hal : AllAlike ds) (hk : Sortable ds ∨ (ds.length ≤ 1 ∧ ∀ d ∈ ds, d ≠ .none)) (hL : ds.length ≤ sizeLine)
    (hu : ∀ d, d ∈ ds → A.units + 2 + d.depth < cLine) (h : ∀ out, out.length = ds.length → EachIs R out (ds.mergeSort (dataLe false id)) → Q (.ref (s.heap.objs.size + 1)) { s with heap := sortedAll s.heap vs out.toArray }) :
    wpAny (model prog w) A (call (.builtin "sorted") [v]) Q E s := by
  have er2 : EachIs (fun v d => ∃ as, Reads (sortingHeap (copyHeap s.heap vs) (s.heap.objs.size + 1) vs) v d as) vs ds := er.mono fun _ _ ⟨as, r⟩ => ⟨as, Reads.keeps (fun _ _ => PySem.W.sorting_copy_old) r⟩
  refine sorted_from hcol (SortsAt.keepU (s := { s with heap := sortingHeap (copyHeap s.heap vs) (s.heap.objs.size + 1) vs }) er2 hal hk (fun d hd => hu d hd)) (by rw [e.length]; exact hL) ?_
  have hm : ds.map id = ds := List.map_id ds
  have out := PySem.W.sortVals_data (h' := sortingHeap (copyHeap s.heap vs) (s.heap.objs.size + 1) vs) (enc := id) false e er2 (by rw [hm]; exact hal)
  rw [hm] at out
  exact h _ (by rw [PySem.W.sortVals_length false rfl]; exact e.length) out
end
/-! ### the rule -/
def allAlikeB (ds : List D) : Bool := ds.all fun d => ds.all fun e => alike d e
def tupNE : D → Bool
  | .tuple (_ :: _) => true
  | _ => false
def notTN : D → Bool
  | .none => false
  | .tuple _ => false
  | _ => true
def sortOk (ds : List D) : Bool := fits ds.length && PyData.plainAll ds && allAlikeB ds && (ds.all tupNE || ds.all notTN || (decide (ds.length ≤ 1) && ds.all fun d => !isNone d)) && decide (PyData.depthAll ds ≤ 60)
def sortL (ds : List D) : List D := ds.mergeSort (dataLe false id)
def dSorted : List D → R D
  | [.list ds] => guardR (sortOk ds) (.list (sortL ds))
  | [.tuple ds] => guardR (sortOk ds) (.list (sortL ds))
  | _ => .stuck
theorem cl_sorted (x : List D) : (dSorted x).clean := by unfold dSorted; split <;> first | trivial | exact clean_guard _ _
theorem depth_mem : ∀ {ds : List D} {d : D}, d ∈ ds → d.depth ≤ PyData.depthAll ds
  | e :: ds, d, h => by
    show d.depth ≤ max e.depth (PyData.depthAll ds)
    rcases List.mem_cons.mp h with rfl | h
    · omega
    · have := depth_mem h; omega
theorem plain_noDicts (ds : List D) (h : PyData.plainAll ds = true) : noDicts ds = true := plains_noDict ds h
/-- the values behind data -/
theorem each_rd {w : World} {K : PySem.W.Frag} {Z : Hp} : ∀ {xs : List V} {us : List Value} {ds : List D}, Vals xs us → RDs w K Z xs ds → EachIs (fun u d => ∃ x, RelV x u ∧ RD w K Z x d) us ds
  | _, _, _, .nil, .nil => .nil
  | _, _, _, .cons r rr, .cons h t => .cons ⟨_, r, h⟩ (each_rd rr t)
theorem rd_each {w : World} {K : PySem.W.Frag} {Z : Hp} : ∀ {us : List Value} {ds : List D}, EachIs (fun u d => ∃ x, RelV x u ∧ RD w K Z x d) us ds → ∃ xs, Vals xs us ∧ RDs w K Z xs ds
  | _, _, .nil => ⟨[], .nil, .nil⟩
  | _, _, .cons ⟨x, r, h⟩ t => by
    obtain ⟨xs, r2, h2⟩ := rd_each t
    exact ⟨x :: xs, .cons r r2, .cons h h2⟩
section
variable {X : Cx} {W : WX} {a b c e : Expr} {es rest : List Expr} {pos p : Pos} {F G I : EV} {T U : ET} {Fs : EA}
theorem each_reads {pins : List (Addr × Obj)} {σ : St} {H : Hp} {s : Shared} (I : Inv X pins σ H s) : ∀ {xs : List V} {us : List Value} {ds : List D}, Vals xs us → DpAll X.K H xs ds → EachIs (fun v d => ∃ as, Reads s.heap v d as) us ds
  | _, _, _, .nil, .nil => .nil
  | _, _, _, .cons r rr, .cons h t => .cons (Dp.reads I _ _ _ h r) (each_reads I rr t)
theorem sortOk_of {ds : List D} (h : sortOk ds = true) : ds.length ≤ sizeLine ∧ PyData.plainAll ds = true ∧ AllAlike ds ∧ (Sortable ds ∨ (ds.length ≤ 1 ∧ ∀ d ∈ ds, d ≠ .none)) ∧ PyData.depthAll ds ≤ 60 := by
  unfold sortOk at h
  simp only [Bool.and_eq_true, Bool.or_eq_true, decide_eq_true_eq] at h
  obtain ⟨⟨⟨⟨h1, h2⟩, h3⟩, h4⟩, h5⟩ := h
  refine ⟨fits_le h1, h2, ?_, ?_, h5⟩
  · intro d hd d' hd'
    unfold allAlikeB at h3
    rw [List.all_eq_true] at h3
    have := h3 d hd
    rw [List.all_eq_true] at this
    exact this d' hd'
  · rcases h4 with (h4 | h4) | ⟨h4, h6⟩
    · refine .inl (.inl fun d hd => ?_)
      rw [List.all_eq_true] at h4
      have := h4 d hd
      unfold tupNE at this
      split at this
      · exact ⟨_, _, rfl⟩
      · cases this
    · refine .inl (.inr fun d hd => ?_)
      rw [List.all_eq_true] at h4
      have := h4 d hd
      unfold notTN at this
      split at this
      · cases this
      · cases this
      · rename_i q1 q2; exact ⟨fun z => q1 z, fun xs z => q2 xs z⟩
    · refine .inr ⟨h4, fun d hd z => ?_⟩
      rw [List.all_eq_true] at h6
      have := h6 d hd
      rw [z] at this
      cases this
/-- what sorted gives, in the walk's terms -/
def rSortD (w : World) (K : PySem.W.Frag) : List V → Hp → VK → Prop := fun vs H Q => ∃ (Z : Hp) (p : Addr) (xs : List V) (ds : List D), vs = [.ref p] ∧ Same Z H ∧ (SqL K H p xs ∨ SqT K H p xs) ∧ RDs w K Z xs ds ∧ sortOk ds = true ∧
  ∀ ys l, RDs w K Z ys (sortL ds) → H l = none → Q (.ref l) (upd H l (.lst ys))
theorem cr_sortedD (hu : HasRoom X) : CallR X (.builtin "sorted") (rSortD X.w X.K) := by
  intro pins s σ H vs us Q I r h
  obtain ⟨Z, p, xs, ds, rfl, sz, hq, rd, ok, q⟩ := h
  obtain ⟨k1, k2, k3, k4, k5⟩ := sortOk_of ok
  rw [Vals.ref1 r]
  have fin : ∀ (its : List Value), Vals xs its → Collects X.prog X.w s (.ref p) its → wpAny (model X.prog X.w) X.A (call (.builtin "sorted") [.ref p]) (EP X pins σ Q) X.xe s := by
    intro its rv hc
    refine sorted_ds hc (each_rd rv rd) (each_reads I rv ((rd.mono sz).dp (plain_noDicts ds k2))) k3 k4 k1 (fun d hd => ?_) fun out h1 h2 => ?_
    · have := depth_mem hd
      have hu : X.A.units + 100 < cLine := hu
      omega
    · obtain ⟨ys, r2, rd2⟩ := rd_each h2
      obtain ⟨ep, he⟩ := sortedAll_at s.heap its out.toArray
      have hl : ys.length ≤ sizeLine := by
        rw [r2.length, h1]; exact k1
      exact ⟨.ref _, upd H (s.heap.objs.size + 1) (.lst ys), I.laid (t' := s.toks) (fun _ _ => sortedAll_old) (Nat.le_succ _) ⟨hl, out, ep, r2, he⟩, rfl, q _ _ rd2 (I.hok.fresh (Nat.le_succ _))⟩
  rcases hq with hq | hq
  · obtain ⟨its, rv, hl, hz⟩ := I.list hq
    exact fin its rv (collects_list hl.isList (by rw [← rv.length]; exact hz))
  · obtain ⟨its, rv, hl, hz⟩ := I.tuple hq
    exact fin its rv (collects_tup hl (by rw [← rv.length]; exact hz))
theorem co_sorted : CaO X (rSortD X.w X.K) dSorted := by
  intro Z H xs ds Q s r h
  unfold dSorted at h
  split at h
  · obtain ⟨v, rfl, r0⟩ := rds1 r
    obtain ⟨ok, h⟩ := h.guard
    cases r0 with
    | lst h1 r1 =>
      refine ⟨Z, _, _, _, rfl, s, .inl (.inl (.inl (s _ _ h1))), r1, ok, fun ys l rd hl => ?_⟩
      exact h l Z _ (Ext.newO s hl) hl (.lst (zfree s hl) upd_same rd)
  · obtain ⟨v, rfl, r0⟩ := rds1 r
    obtain ⟨ok, h⟩ := h.guard
    obtain ⟨p, xs, rfl, h1, r1⟩ := rd_tup r0
    refine ⟨Z, _, _, _, rfl, s, .inr (SqT.mono s h1), r1, ok, fun ys l rd hl => ?_⟩
    exact h l Z _ (Ext.newO s hl) hl (.lst (zfree s hl) upd_same rd)
  · exact h.elim
theorem eo_sorted (hu : HasRoom X) (hm : X.mg "sorted" = none) (ha : Ea X W [a] Fs) (hg : Gl X "sorted" := by rfl) : Eo X W (.Call (.Name "sorted" p) [a] [] pos) (eA dSorted Fs) :=
  eo_A (fun h => pe_callB (cr_sortedD hu) hg hm boot_sorted h (he := ha.se _ _ rfl) (hpl := ha.plt _ _ rfl _)) co_sorted cl_sorted ha
end
end PQ

/-! PQ.19: zip, enumerate -/
namespace PQ
open PySem PySem.Spec PyProof.Rows L2

/-! ### zip of two lists or of two tuples -/
def zipD (ds es : List D) : List D := (ds.zip es).map fun p => .tuple [p.1, p.2]
theorem zipD_get {ds es : List D} {i : Nat} {d : D} (h : (zipD ds es)[i]? = some d) : ∃ x y, ds[i]? = some x ∧ es[i]? = some y ∧ d = .tuple [x, y] := by
  unfold zipD at h
  rw [List.getElem?_map] at h
  cases e : (ds.zip es)[i]? with
  | none => rw [e] at h; cases h
  | some p =>
    rw [e] at h
    cases h
    obtain ⟨h1, h2⟩ := List.getElem?_zip_eq_some.mp e
    exact ⟨_, _, h1, h2, rfl⟩
theorem zipD_len (ds es : List D) : (zipD ds es).length = min ds.length es.length := by unfold zipD; simp
section
variable {X : Cx} {W : WX} {a b c e tg : Expr} {es : List Expr} {pos p tpos : Pos} {F G : EV} {Fs : EA} {elts : List Expr} {kk : Nat}
theorem io_zipL {Z : Hp} {l m : Addr} {xs ys : List V} {ds es : List D} (h1 : Z l = some (.lst xs)) (r1 : RDs X.w X.K Z xs ds) (h2 : Z m = some (.lst ys)) (r2 : RDs X.w X.K Z ys es) : ItOk X (Itz X.K l m) Z (zipD ds es) := by
  have a1 : ∀ {Z' H' : Hp}, Same Z Z' → Same Z' H' → SqL X.K H' l xs := fun s1 s2 => .inl (.inl (s2 _ _ (s1 _ _ h1)))
  have a2 : ∀ {Z' H' : Hp}, Same Z Z' → Same Z' H' → SqL X.K H' m ys := fun s1 s2 => .inl (.inl (s2 _ _ (s1 _ _ h2)))
  refine ⟨fun s1 s2 => ⟨xs, ys, a1 s1 s2, a2 s1 s2, ?_⟩, fun s1 s2 q => ?_, fun s1 s2 q y => ?_⟩
  · rw [zipD_len, r1.length, r2.length]; omega
  · obtain ⟨x, y, g1, g2, _⟩ := zipD_get q
    obtain ⟨u, hu, _⟩ := r1.get g1
    obtain ⟨v, hv, _⟩ := r2.get g2
    exact ⟨xs, ys, u, v, a1 s1 s2, a2 s1 s2, hu, hv⟩
  · obtain ⟨x, y', g1, g2, rfl⟩ := zipD_get q
    obtain ⟨u, hu, ru⟩ := r1.get g1
    obtain ⟨v, hv, rv⟩ := r2.get g2
    obtain ⟨T, u', v', rfl, hT, rfl, k1, k2⟩ := y
    have e1 : u' = u := Option.some.inj ((k1 _ (a1 s1 s2)).symm.trans hu)
    have e2 : v' = v := Option.some.inj ((k2 _ (a2 s1 s2)).symm.trans hv)
    subst e1 e2
    refine ⟨_, Ext.new (o := .tup [u', v']) s2 hT, .tup (.inl (.inl upd_same)) ?_⟩
    have sz := (Ext.new (o := .tup [u', v']) s2 hT).zz
    exact .cons ((ru.mono s1).mono sz) (.cons ((rv.mono s1).mono sz) .nil)
theorem io_zipT {Z : Hp} {l m : Addr} {xs ys : List V} {ds es : List D} (h1 : SqT X.K Z l xs) (r1 : RDs X.w X.K Z xs ds) (h2 : SqT X.K Z m ys) (r2 : RDs X.w X.K Z ys es) : ItOk X (RZ.ItzT X.K l m) Z (zipD ds es) := by
  have a1 : ∀ {Z' H' : Hp}, Same Z Z' → Same Z' H' → SqT X.K H' l xs := fun s1 s2 => SqT.mono s2 (SqT.mono s1 h1)
  have a2 : ∀ {Z' H' : Hp}, Same Z Z' → Same Z' H' → SqT X.K H' m ys := fun s1 s2 => SqT.mono s2 (SqT.mono s1 h2)
  refine ⟨fun s1 s2 => ⟨xs, ys, a1 s1 s2, a2 s1 s2, ?_⟩, fun s1 s2 q => ?_, fun s1 s2 q y => ?_⟩
  · rw [zipD_len, r1.length, r2.length]; omega
  · obtain ⟨x, y, g1, g2, _⟩ := zipD_get q
    obtain ⟨u, hu, _⟩ := r1.get g1
    obtain ⟨v, hv, _⟩ := r2.get g2
    exact ⟨xs, ys, u, v, a1 s1 s2, a2 s1 s2, hu, hv⟩
  · obtain ⟨x, y', g1, g2, rfl⟩ := zipD_get q
    obtain ⟨u, hu, ru⟩ := r1.get g1
    obtain ⟨v, hv, rv⟩ := r2.get g2
    obtain ⟨T, u', v', rfl, hT, rfl, k1, k2⟩ := y
    have e1 : u' = u := Option.some.inj ((k1 _ (a1 s1 s2)).symm.trans hu)
    have e2 : v' = v := Option.some.inj ((k2 _ (a2 s1 s2)).symm.trans hv)
    subst e1 e2
    refine ⟨_, Ext.new (o := .tup [u', v']) s2 hT, .tup (.inl (.inl upd_same)) ?_⟩
    have sz := (Ext.new (o := .tup [u', v']) s2 hT).zz
    exact .cons ((ru.mono s1).mono sz) (.cons ((rv.mono s1).mono sz) .nil)
def zipOf : D → D → R (List D)
  | .list ds, .list es => .ok (zipD ds es)
  | .tuple ds, .tuple es => .ok (zipD ds es)
  | _, _ => .stuck
def iZip (F G : EV) : EI := fun ρ => F ρ >>= fun x => G ρ >>= fun y => zipOf x y
theorem ei_zip (hm : X.mg "zip" = none) (ha : Ev X W a F) (hb : Ev X W b G) (hg : Gl X "zip" := by rfl) (na : starEach [a, b] X.env = (false, eval a X.env) :: starEach [b] X.env := by rfl) (nb : starEach [b] X.env = (false, eval b X.env) :: starEach [] X.env := by rfl)
    (hpl : (backTo pos (starEach [b] X.env)).any (·.1) = false := by rfl) : Ei X W (.Tuple elts kk tpos) (.Call (.Name "zip" p) [a, b] [] pos) (iZip F G) := by
  refine ⟨fun {Z0 H0 Z H σ ρ Q} r q => toAtI (RZ.pi_zipA hg hm (pa_cons pe_at (pa_cons pe_at pa_nil nb) na) na hpl) ?_⟩
  refine ha.go r (q.bind.mono fun d hd v Z1 H1 x1 r1 => ?_)
  refine hb.go (r.step x1) ((hd.bind.step x1).mono fun d2 hd2 v2 Z2 H2 x2 r2 => ?_)
  have r1 := r1.mono x2.zz
  cases r1 with
  | lst h1 q1 =>
    cases r2 with
    | lst h2 q2 => exact ⟨_, _, _, _, rfl, .inl ⟨.inl (.inl (x2.zh _ _ h1)), .inl (.inl (x2.zh _ _ h2)), hd2 _ _ _ (x1.trans x2) (io_zipL h1 q1 h2 q2)⟩⟩
    | _ => exact hd2.elim
  | tup h1 q1 =>
    cases r2 with
    | tup h2 q2 => exact ⟨_, _, _, _, rfl, .inr ⟨SqT.mono x2.zh h1, SqT.mono x2.zh h2, hd2 _ _ _ (x1.trans x2) (io_zipT h1 q1 h2 q2)⟩⟩
    | _ => exact hd2.elim
  | _ => exact hd2.elim

/-! ### enumerate -/
def enumFrom' : Nat → List D → List D
  | _, [] => []
  | i, d :: ds => .tuple [.int i, d] :: enumFrom' (i + 1) ds
def enumD (ds : List D) : List D := enumFrom' 0 ds
theorem enumFrom_get : ∀ (ds : List D) (n i : Nat) (d : D), (enumFrom' n ds)[i]? = some d → ∃ x, ds[i]? = some x ∧ d = .tuple [.int ((n + i : Nat) : Int), x]
  | [], n, i, d, h => by simp [enumFrom'] at h
  | x :: ds, n, 0, d, h => by
    simp [enumFrom'] at h
    exact ⟨x, rfl, h.symm⟩
  | x :: ds, n, i + 1, d, h => by
    obtain ⟨y, h1, h2⟩ := enumFrom_get ds (n + 1) i d (by simpa [enumFrom'] using h)
    refine ⟨y, by simpa using h1, ?_⟩
    rw [h2, show n + 1 + i = n + (i + 1) by omega]
theorem enumFrom_len : ∀ (ds : List D) (n : Nat), (enumFrom' n ds).length = ds.length
  | [], _ => rfl
  | _ :: ds, n => by rw [enumFrom', List.length_cons, enumFrom_len, List.length_cons]
theorem enumD_get {ds : List D} {i : Nat} {d : D} (h : (enumD ds)[i]? = some d) : ∃ x, ds[i]? = some x ∧ d = .tuple [.int (i : Nat), x] := by
  obtain ⟨x, h1, h2⟩ := enumFrom_get ds 0 i d h
  exact ⟨x, h1, by rw [h2, Nat.zero_add]⟩
theorem enumD_len (ds : List D) : (enumD ds).length = ds.length := enumFrom_len ds 0
/-- the pairs of what T holds -/
def Itn (T : Hp → List V → Prop) : It :=
  ⟨fun i H => ∃ xs x, T H xs ∧ xs[i]? = some x, fun i H v H' => ∃ q x, v = .ref q ∧ H q = none ∧ H' = upd H q (.tup [.int (i : Nat), x]) ∧ ∀ xs, T H xs → xs[i]? = some x, fun i H => ∃ xs, T H xs ∧ xs.length = i⟩
theorem io_enum {T : Hp → List V → Prop} {Z : Hp} {xs : List V} {ds : List D} (at' : ∀ {Z' H' : Hp}, Same Z Z' → Same Z' H' → T H' xs) (r : RDs X.w X.K Z xs ds) : ItOk X (Itn T) Z (enumD ds) := by
  refine ⟨fun s1 s2 => ⟨xs, at' s1 s2, by rw [enumD_len, r.length]⟩, fun s1 s2 q => ?_, fun s1 s2 q y => ?_⟩
  · obtain ⟨x, g, _⟩ := enumD_get q
    obtain ⟨u, hu, _⟩ := r.get g
    exact ⟨xs, u, at' s1 s2, hu⟩
  · obtain ⟨x, g, rfl⟩ := enumD_get q
    obtain ⟨u, hu, ru⟩ := r.get g
    obtain ⟨t, u', rfl, ht, rfl, k1⟩ := y
    have e1 : u' = u := Option.some.inj ((k1 _ (at' s1 s2)).symm.trans hu)
    subst e1
    refine ⟨_, Ext.new s2 ht, .tup (.inl (.inl upd_same)) ?_⟩
    exact .cons (.int _) (.cons ((ru.mono s1).mono (Ext.new (o := .tup _) s2 ht).zz) .nil)
/-- what an inner iterator does for enumerate -/
structure Inner (P : Program) (w : World) (K : PySem.W.Frag) (T : Hp → List V → Prop) (it : Addr) (S : Nat → Heap → Prop) : Prop where
  live : ∀ i h, S i h → ∃ o, h.get? it = some o ∧ ∀ v, o.data ≠ .cell v
  keep : ∀ i h h', S i h → (∀ o, h.get? it = some o → h'.get? it = some o) → S i h'
  draw : ∀ (X : Cx), X.prog = P → X.w = w → X.K = K → ∀ (pins : List (Addr × Obj)) (s : Shared) (σ : St) (H : Hp), Inv X pins σ H s → ∀ xs, T H xs → ∀ (e : Addr) (i : Int) (old : Value), IsEnum s.heap e it i old → ∀ j, S j s.heap → ∀ A : Around, A.handled = none →
    (∀ ys, T H ys → ys = xs) ∧ ∃ (fp : List Addr) (PP : Nat → Value → Prop) (St' : Nat → Heap → Prop), e ∉ fp ∧ (∀ i v x, PP i v → xs[i]? = some x → RelV x v) ∧ Draws P w A it fp xs.length PP St' ∧ (∀ i, S i s.heap → St' i s.heap) ∧ (∀ i h, St' i h → S i h)
theorem turn_en {P : Program} {w : World} {K : PySem.W.Frag} {T : Hp → List V → Prop} {e it : Addr} {S : Nat → Heap → Prop} (D : Inner P w K T it S) :
    Turn P w K (.Tuple elts kk tpos) (Itn T) [e, it] e (fun i h => (∃ old, IsEnum h e it ((i : Nat) : Int) old) ∧ S i h ∧ e ≠ it) where
  mem := by simp
  obj := fun i h st b hb => by
    obtain ⟨⟨old, he⟩, hi, _⟩ := st
    rcases (show b = e ∨ b = it by simpa using hb) with z | z
    · rw [z]; exact ⟨_, he, fun v q => nomatch q⟩
    · rw [z]; exact D.live i h hi
  keep := fun i h h' st k => let ⟨⟨old, he⟩, hi, hne⟩ := st; ⟨⟨old, k e (by simp) _ he⟩, D.keep i h h' hi fun o q => k it (by simp) o q, hne⟩
  item := by
    intro X hP hw hK hc i pins s σ H E I hf st hg
    obtain ⟨⟨old, he⟩, hi, hne⟩ := st
    obtain ⟨xs, x, hq, hx⟩ := hg
    obtain ⟨uq, fp, PP, St', hef, hrel, dr, in1, out1⟩ := D.draw X hP hw hK pins s σ H I xs hq e _ old he i hi X.A.in1 (I.ok.hd hc)
    subst hP hw hK
    have hlt : i < xs.length := (List.getElem?_eq_some_iff.mp hx).1
    have hel : e < s.heap.objs.size := Heap.lt_size he
    have hil : it < s.heap.objs.size := by obtain ⟨o, q, _⟩ := D.live i _ hi; exact Heap.lt_size q
    refine wpAny_pyNext_enum_itemD dr he (in1 i hi) hlt hne hef fun u h1 tk hu ho hst hT hsz hk => ?_
    refine ⟨_, rfl, wpAny_letOwnedTupleGo_enum (s := { s with heap := h1, toks := tk + 1 }) ho fun h2 he2 sb => ?_⟩
    have ru := hrel i u x hu hx
    have hT2 : h2.get? s.heap.objs.size = some { cls := .type "tuple", data := .seq #[.int i tk, u] } := (sb.2 _ (Nat.ne_of_gt hel)).trans hT
    have new : ObjOk X.prog X.w (upd H s.heap.objs.size (.tup [.int (i : Nat), x])) h2 s.heap.objs.size (.tup [.int (i : Nat), x]) :=
      ⟨by show 2 ≤ sizeLine; decide, [.int i tk, u], .cons ⟨_, rfl⟩ (.cons ru .nil), ⟨_, hT2, rfl, _, rfl⟩⟩
    have I1 : Inv X pins σ (upd H s.heap.objs.size (.tup [.int (i : Nat), x])) { s with heap := h2, toks := tk + 1 } :=
      I.turnedNew (ch := [e, it]) (fun b ob hb q => (sb.2 b (fun z => hb (by simp [z]))).trans (hk b ob (fun z => hb (by simp [z])) (fun z => hb (by simp [z])) q)) hf (Nat.le_refl _) new
    refine ⟨.ref s.heap.objs.size, _, I1, rfl, ⟨_, x, rfl, I.hok.fresh (Nat.le_refl _), rfl, fun ys hy => by rw [uq ys hy]; exact hx⟩, ⟨⟨u, ?_⟩, D.keep _ _ _ (out1 _ _ hst) (fun o q => (sb.2 it (Ne.symm hne)).trans q), hne⟩, fun b hb => ?_⟩
    · have e1 : ((i + 1 : Nat) : Int) = (i : Int) + 1 := by omega
      rw [e1]; exact he2
    · have hb2 : b < s.heap.objs.size := by
        rcases (show b = e ∨ b = it by simpa using hb) with z | z
        · rw [z]; exact hel
        · rw [z]; exact hil
      rw [upd_ne (Nat.ne_of_lt hb2)]
      exact (hf b hb).1
  done := by
    intro X hP hw hK hc i pins s σ H E I hf st hg
    obtain ⟨⟨old, he⟩, hi, hne⟩ := st
    obtain ⟨xs, hq, hx⟩ := hg
    obtain ⟨uq, fp, PP, St', hef, hrel, dr, in1, out1⟩ := D.draw X hP hw hK pins s σ H I xs hq e _ old he i hi X.A.in1 (I.ok.hd hc)
    subst hP hw hK
    obtain ⟨f0, f1, f2, f3, f4, f5⟩ := hf it (by simp)
    refine wpAny_pyNext_enum_endD dr he (by rw [hx]; exact in1 i hi) fun h1 eb => ⟨rfl, I.turned (t' := s.toks) (fun b o hb q => eb b o hb q) f0 f1 f3 f4 f5⟩
  self := fun A i s Q E st h => let ⟨⟨_, he⟩, _⟩ := st; wpAny_pyIter_enum he h
theorem inner_list {P : Program} {w : World} {K : PySem.W.Frag} {l it : Addr} : Inner P w K (fun H xs => SqL K H l xs) it (fun i h => h.IsListIter it l i ∧ l ≠ it) where
  live := fun i h ⟨⟨o, ho, hc, hd⟩, _⟩ => ⟨o, ho, fun v q => by rw [hd] at q; cases q⟩
  keep := fun i h h' ⟨hi, hn⟩ k => ⟨hi.at k, hn⟩
  draw := by
    intro X hP hw hK pins s σ H I xs hq e j old he j2 hS A hA
    subst hP hw hK
    obtain ⟨its, rv, p, hz⟩ := I.list hq
    have hl := rv.length
    refine ⟨fun ys hy => I.list_inj hy hq, [it, l], fun i v => its.toArray[i]? = some v, fun i h => h.IsListIter it l i ∧ h.IsList l its.toArray, ?_, fun i v x hv hx => ?_, ?_, fun i hi => ⟨hi.1, p.isList⟩, fun i h hh => ⟨hh.1, hS.2⟩⟩
    · intro hm
      rcases (show e = it ∨ e = l by simpa using hm) with z | z
      · obtain ⟨⟨o, ho, hc, _⟩, _⟩ := hS
        rw [← z, he] at ho
        cases ho
        revert hc
        show Value.type "enumerate" = Value.type "list_iterator" → False
        decide
      · obtain ⟨o, ho, hc, _⟩ := p.isList
        rw [← z, he] at ho
        cases ho
        revert hc
        show Value.type "enumerate" = Value.type "list" → False
        decide
    · obtain ⟨u, hu, ru⟩ := rv.get hx
      have : its.toArray[i]? = some u := by simpa using hu
      have hv : its.toArray[i]? = some v := hv
      rw [this] at hv
      cases hv; exact ru
    · have := Draws.list (prog := X.prog) (w := X.w) hA it l hS.2 its.toArray
      rw [List.size_toArray, ← hl] at this
      exact this
theorem draws_tup {prog : Program} {w : World} {A : Around} (hh : A.handled = none) (it l : Addr) (hne : l ≠ it) (items : Array Value) :
    Draws prog w A it [it, l] items.size (fun i v => items[i]? = some v) (fun i h => h.IsTupleIter it l i ∧ h.IsTuple l items) where
  live := fun _ _ st => let ⟨o, ho, _⟩ := st.1; ⟨o, ho⟩
  frame := fun _ _ _ st hk => ⟨st.1.at fun o e => hk it (by simp) o e, st.2.at fun o e => hk l (by simp) o e⟩
  item := fun i s Q E hi st hQ => by
    refine RZ.nextOf_tuple_item st.1 st.2 (x := items[i]) (by simp [hi]) fun h' hit' hs' => ?_
    exact hQ _ h' s.toks (by simp [hi]) ⟨hit', st.2.at fun o e => (hs'.2 l hne).trans e⟩ hs'
  done := fun s Q E st hE => RZ.nextOf_tuple_end hh st.1 st.2 (by simp) hE
theorem inner_tup {P : Program} {w : World} {K : PySem.W.Frag} {l it : Addr} : Inner P w K (fun H xs => SqT K H l xs) it (fun i h => h.IsTupleIter it l i ∧ l ≠ it) where
  live := fun i h ⟨⟨o, ho, hc, hd⟩, _⟩ => ⟨o, ho, fun v q => by rw [hd] at q; cases q⟩
  keep := fun i h h' ⟨hi, hn⟩ k => ⟨hi.at k, hn⟩
  draw := by
    intro X hP hw hK pins s σ H I xs hq e j old he j2 hS A hA
    subst hP hw hK
    obtain ⟨its, rv, p, hz⟩ := I.tuple hq
    have hl := rv.length
    refine ⟨fun ys hy => I.tuple_inj hy hq, [it, l], fun i v => its.toArray[i]? = some v, fun i h => h.IsTupleIter it l i ∧ h.IsTuple l its.toArray, ?_, fun i v x hv hx => ?_, ?_, fun i hi => ⟨hi.1, p⟩, fun i h hh => ⟨hh.1, hS.2⟩⟩
    · intro hm
      rcases (show e = it ∨ e = l by simpa using hm) with z | z
      · obtain ⟨⟨o, ho, hc, _⟩, _⟩ := hS
        rw [← z, he] at ho
        cases ho
        revert hc
        show Value.type "enumerate" = Value.type "tuple_iterator" → False
        decide
      · obtain ⟨o, ho, hc, _⟩ := p
        rw [← z, he] at ho
        cases ho
        revert hc
        show Value.type "enumerate" = Value.type "tuple" → False
        decide
    · obtain ⟨u, hu, ru⟩ := rv.get hx
      have : its.toArray[i]? = some u := by simpa using hu
      have hv : its.toArray[i]? = some v := hv
      rw [this] at hv
      cases hv; exact ru
    · have := draws_tup (prog := X.prog) (w := X.w) hA it l hS.2 its.toArray
      rw [List.size_toArray, ← hl] at this
      exact this
def signsV (z : Str) : List V := z.cps.toList.map fun c => .str ⟨#[c]⟩
theorem inner_str {P : Program} {w : World} {K : PySem.W.Frag} {it : Addr} {z : Str} {t : Tok} : Inner P w K (fun _ xs => xs = signsV z) it (fun i h => h.IsStrIter it (strIterType z) z t i) where
  live := fun i h ⟨o, ho, hc, hd⟩ => ⟨o, ho, fun v q => by rw [hd] at q; cases q⟩
  keep := fun i h h' ⟨o, ho, r⟩ k => ⟨o, k o ho, r⟩
  draw := by
    intro X hP hw hK pins s σ H I xs hq e j old he j2 hS A hA
    subst hP hw hK hq
    have hl : (signsV z).length = z.cps.size := by unfold signsV; simp
    refine ⟨fun ys hy => hy, [it], fun i v => ∃ c u, z.cps[i]? = some c ∧ v = .str ⟨#[c]⟩ u, fun i h => h.IsStrIter it (strIterType z) z t i, ?_, fun i v x hv hx => ?_, ?_, fun i hi => hi, fun i h hh => hh⟩
    · intro hm
      have z1 : e = it := by simpa using hm
      obtain ⟨o, ho, hc, hd⟩ := hS
      rw [← z1, he] at ho
      cases ho
      revert hc
      show Value.type "enumerate" = Value.type (strIterType z) → False
      unfold strIterType
      split <;> decide
    · obtain ⟨c, u, h1, rfl⟩ := hv
      unfold signsV at hx
      rw [List.getElem?_map] at hx
      have : z.cps.toList[i]? = some c := by rw [Array.getElem?_toList]; exact h1
      rw [this] at hx
      cases hx
      exact ⟨u, rfl⟩
    · rw [hl]
      cases ha : z.cps.all (· < 128)
      · have : strIterType z = "str_iterator" := by simp [strIterType, ha]
        rw [this]
        exact Draws.strWide hA it z t
      · have : strIterType z = "str_ascii_iterator" := by simp [strIterType, ha]
        rw [this]
        exact Draws.strAscii hA it z t
set_option maxHeartbeats 1000000 in
theorem meets_enum1 {v : Value} {o : Obj} {H : Heap → Prop} (B : PySem.Begins v o H) :
    Meets (Builtin.«enumerate.__new__» ⟨[.type "enumerate", v], []⟩) (fun _ R s => H s.heap ∧
      R (.ok (.ret (.ref (s.heap.push o).objs.size))) { s with heap := (s.heap.push o).push { cls := .type "enumerate", data := .fields #[.none, .bool false, .ref s.heap.objs.size, rawInt 0, .none, .none] } }) :=
  .of_wp fun prog w A R s h => by
    obtain ⟨hp, g, d, tk, os⟩ := s; obtain ⟨h1, h⟩ := h
    have hsub := sub_enumerate
    have q1 : ∀ {A' : Around} {E : Value → Shared → Prop} {Q : Value → Shared → Prop}, Q (.ref hp.objs.size) ⟨hp.push o, g, d, tk, os⟩ → wpAny (model prog w) A' (pyIter v) Q E ⟨hp, g, d, tk, os⟩ :=
      fun q => B.iter prog w _ _ ⟨hp, g, d, tk, os⟩ _ h1 q
    wp_walk using q1
    refine wpAny_stack_any fun st => wpAny_pure ?_
    split
    · rename_i c _ _ _ _ _
      cases (c == Value.type "enumerate")
      · wp_walk using q1
        exact ⟨_, rfl, h⟩
      · wp_walk using q1
        exact ⟨_, rfl, h⟩
    · wp_walk using q1
      exact ⟨_, rfl, h⟩
theorem call_enum {prog : Program} {w : World} {A : Around} {E : Value → Shared → Prop} {s : Shared} {v : Value} {o : Obj} {H : Heap → Prop} {Q : Value → Shared → Prop} (B : PySem.Begins v o H) (h1 : H s.heap)
    (h : ∀ h', IsEnum h' (s.heap.objs.size + 1) s.heap.objs.size 0 .none → h'.get? s.heap.objs.size = some o → (∀ b o, s.heap.get? b = some o → h'.get? b = some o) → Q (.ref (s.heap.objs.size + 1)) { s with heap := h' }) :
    wpAny (model prog w) A (call (.type "enumerate") [v]) Q E s := by
  refine callType_new F.called_enumerate (by decide) (F.typeCall_enumerate_1 _) (F.newCall_enumerate_1 _) (fun obj => F.args_object_init_2 obj _) F.entry_enumerate_new (meets_enum1 B) ⟨h1, ?_⟩
  have hz : (s.heap.push o).objs.size = s.heap.objs.size + 1 := Heap.size_push ..
  show _ ∧ _
  rw [hz]
  have he : IsEnum ((s.heap.push o).push { cls := .type "enumerate", data := .fields #[.none, .bool false, .ref s.heap.objs.size, rawInt 0, .none, .none] }) (s.heap.objs.size + 1) s.heap.objs.size 0 .none := by
    have := Heap.get?_push_size (s.heap.push o) (o := { cls := .type "enumerate", data := .fields #[.none, .bool false, .ref s.heap.objs.size, rawInt 0, .none, .none] }) rfl
    rw [hz] at this; exact this
  exact ⟨⟨_, he, rfl⟩, h _ he (Heap.get?_push_of_some _ (Heap.get?_push_size _ B.free)) fun b o x => Heap.get?_push_of_some _ (Heap.get?_push_of_some _ x)⟩
theorem enum_go {T : Hp → List V → Prop} {S : Nat → Heap → Prop} {pins : List (Addr × Obj)} {s : Shared} {σ : St} {H : Hp} {v : Value} {o : Obj} {HH : Heap → Prop} {R' : It → Hp → Prop} {A : Around} {E : Value → Shared → Prop} (I : Inv X pins σ H s) (B : PySem.Begins v o HH) (h1 : HH s.heap)
    (D : Inner X.prog X.w X.K T s.heap.objs.size S) (st : ∀ h' : Heap, h'.get? s.heap.objs.size = some o → S 0 h') (q : R' (Itn T) H) :
    wpAny (model X.prog X.w) A (call (.type "enumerate") [v]) (fun v s1 => wpAny (model X.prog X.w) X.A (pyIter v) (PIE X pins σ (.Tuple elts kk tpos) R') X.xe s1) E s := by
  refine call_enum B h1 fun h2 he ho hk => wpAny_pyIter_enum he ?_
  have I2 : Inv X pins σ H { s with heap := h2 } := I.kept (t' := s.toks) hk
  refine ⟨s.heap.objs.size + 1, [s.heap.objs.size + 1, s.heap.objs.size], _, _, H, rfl, I2, turn_en D, ⟨⟨.none, he⟩, st _ ho, Nat.succ_ne_self _⟩, fun b hb => ?_, q⟩
  have hle : s.heap.objs.size ≤ b := by
    rcases (show b = s.heap.objs.size + 1 ∨ b = s.heap.objs.size by simpa using hb) with z | z
    · rw [z]; exact Nat.le_add_right _ _
    · rw [z]; exact Nat.le_refl _
  exact I.fpOk hle (I.hok.fresh hle)
def iEnumD (F : EV) : EI := fun ρ => F ρ >>= fun x => seqOf x >>= fun ds => .ok (enumD ds)
theorem ei_enum (hm : X.mg "enumerate" = none) (ha : Ev X W a F) (hg : Gl X "enumerate" := by rfl) (na : starEach [a] X.env = (false, eval a X.env) :: starEach [] X.env := by rfl) (hs : starEach [a] X.env = [(false, eval a X.env)] := by rfl) :
    Ei X W (.Tuple elts kk tpos) (.Call (.Name "enumerate" p) [a] [] pos) (iEnumD F) := by
  refine ⟨fun {Z0 H0 Z H σ ρ Q} r q pins s I => ?_⟩
  have g : PAat X [a] σ H (fun vs H1 => ∃ Z1 d x, vs = [x] ∧ RD X.w X.K Z1 x d ∧ Ext Z H Z1 H1 ∧ Post X W Z H σ (seqOf d >>= fun ds => .ok (enumD ds)) (fun ds => ∀ J Z' H', Ext Z H Z' H' → ItOk X J Z' ds → Q J H')) := by
    refine (toAtA (pa_cons pe_at pa_nil na) ?_)
    exact ha.go r (q.bind.mono fun d hd v Z1 H1 x1 r1 => ⟨Z1, d, v, rfl, r1, x1, hd⟩)
  refine Call_ (ld_blt I hg hm boot_enumerate (PyProof.Rows.callWith_type1 (thn (g pos pins s I) fun us s1 ⟨vs, H1, I1, r1, Z1, d, x, ex, rd, x1, q1⟩ => ?_) hs rfl))
  subst ex
  obtain ⟨u, rfl, rx⟩ := vals1 r1
  cases rd with
  | lst h1 rr =>
    cases rx
    obtain ⟨its, rv, pl, hz⟩ := I1.list (.inl (.inl (x1.zh _ _ h1)))
    refine enum_go I1 (PySem.begins_list _ its.toArray) pl.isList inner_list (fun h' ho => ⟨⟨_, ho, rfl, rfl⟩, ?_⟩) ?_
    · obtain ⟨o, ho, _⟩ := pl.isList
      exact Nat.ne_of_lt (Heap.lt_size ho)
    · exact q1 _ _ _ x1 (io_enum (fun s1 s2 => .inl (.inl (s2 _ _ (s1 _ _ h1)))) rr)
  | tup h1 rr =>
    cases rx
    obtain ⟨its, rv, pl, hz⟩ := I1.tuple (SqT.mono x1.zh h1)
    refine enum_go I1 (PySem.begins_tuple _ its.toArray) pl inner_tup (fun h' ho => ⟨⟨_, ho, rfl, rfl⟩, ?_⟩) ?_
    · obtain ⟨o, ho, _⟩ := pl
      exact Nat.ne_of_lt (Heap.lt_size ho)
    · exact q1 _ _ _ x1 (io_enum (fun s1 s2 => SqT.mono s2 (SqT.mono s1 h1)) rr)
  | str z =>
    obtain ⟨t, rfl⟩ := rx
    refine enum_go I1 (PySem.begins_text z t) trivial inner_str (fun h' ho => ⟨_, ho, rfl, rfl⟩) ?_
    refine q1 _ _ _ x1 (io_enum (fun _ _ => rfl) ?_)
    unfold signs signsV
    generalize z.cps.toList = l
    induction l with
    | nil => exact .nil
    | cons c l ih => exact .cons (.str _) ih
  | _ => exact q1.elim
end
@[simp] theorem x_iZip (F G : EV) (ρ : Rho) : iZip F G ρ = (F ρ >>= fun x => G ρ >>= fun y => zipOf x y) := id rfl
@[simp] theorem x_zipL (ds es : List D) : zipOf (.list ds) (.list es) = .ok (zipD ds es) := id rfl
@[simp] theorem x_zipT (ds es : List D) : zipOf (.tuple ds) (.tuple es) = .ok (zipD ds es) := id rfl
@[simp] theorem x_iEnumD (F : EV) (ρ : Rho) : iEnumD F ρ = (F ρ >>= fun x => seqOf x >>= fun ds => .ok (enumD ds)) := id rfl
@[simp] theorem x_sortedL (ds : List D) : dSorted [.list ds] = guardR (sortOk ds) (.list (sortL ds)) := id rfl
@[simp] theorem x_sortedT (ds : List D) : dSorted [.tuple ds] = guardR (sortOk ds) (.list (sortL ds)) := id rfl
end PQ

/-! PQ.20: own lists: x[i] = v, x.pop(), x.extend(y); sum, min, max of lists -/
namespace PQ
open PySem PySem.Spec PyProof.Rows L2

section
variable {X : Cx} {W : WX} {Z0 H0 Z H : Hp} {σ : St} {ρ : Rho}
variable {st : Stmt} {sts : List Stmt} {e a b c ie tg : Expr} {pos p p1 p2 : Pos} {F G : EV} {T : ET} {S S' : ES} {es : List Expr} {Fs : EA}
theorem RDs.set2 {w : World} {K : PySem.W.Frag} {Z : Hp} {vs : List V} {ds : List D} {v : V} {d : D} (h : RDs w K Z vs ds) (r : RD w K Z v d) (i : Nat) : RDs w K Z (vs.set i v) (ds.set i d) := RDs.set r i h
/-- x[i] = v -/
def sSetIx (i : Nat) (F G : EV) : ES := fun ρ => Out.of (F ρ) ρ fun d => Out.of (slO ρ[i]?) ρ fun ds => Out.of (G ρ >>= asI) ρ fun k => Out.of (oR (ixN ds.length k)) ρ fun j => .nx (ρ.set i (.o (.list (ds.set j d))))
theorem es_setIx (i : Nat) {x : Str} (h : Ev X W e F) (hg : Ev X W ie G) (hi : X.N[i]? = some x := by rfl) (hv : Vis X.env.scope x := by first | exact Or.inl rfl | exact Or.inr (Or.inl rfl) | exact Or.inr (Or.inr rfl)) (hd : (x == ("__debug__" : Str)) = false := by decide)
    (hcd : (x == ("__classdict__" : Str)) = false := by decide)
    (ha : ∀ v, assign (.Subscript (.Name x p1) ie p2) X.env v = (do
      let ov ← holding [v] (eval (.Name x p1) X.env)
      let iv ← holding [v, ov] (eval ie X.env)
      standAt p2
      holding [v, ov, iv] (setItem ov iv v)
      release [v, ov, iv] []) := by intro _; rfl)
    (hs : swapsWithSole [.Subscript (.Name x p1) ie p2] e pos.line X.env = pure false := by rfl) (hw : swappedStores [.Subscript (.Name x p1) ie p2] e X.env = pure none := by rfl)
    (h1 : (assignEach [.Subscript (.Name x p1) ie p2] X.env).map (·.2) = [assign (.Subscript (.Name x p1) ie p2) X.env] := by rfl) : Es X W (.Assign [.Subscript (.Name x p1) ie p2] e pos) (sSetIx i F G) := by
  refine ⟨fun {Z0 H0 Z H σ ρ En} r q => toAtS (ps_asg pe_at (pg_sub (pe_var hi hv hd hcd) pe_at set_list ha) hs hw h1) ?_⟩
  refine h.go r ((q.post r).mono fun d q v Z1 H1 x1 r1 => ?_)
  cases hr : ρ[i]? with
  | none => rw [hr] at q; exact q.elim
  | some s =>
    rw [hr] at q
    cases s with
    | o dd =>
      cases dd with
      | list ds =>
        have q : SPost X W Z0 H0 Z (Out.of (G ρ >>= asI) ρ fun k => Out.of (oR (ixN ds.length k)) ρ fun j => .nx (ρ.set i (.o (.list (ds.set j d))))) En := q
        obtain ⟨l, hl, ho, h0⟩ := r.getO hr
        cases ho with
        | lst hz hH rds =>
          rename_i xs
          refine ⟨_, hl, ?_⟩
          refine hg.go (r.step x1) (((q.post r).bind.step x1).mono fun k q u Z2 H2 x2 r2 => ?_)
          cases k with
          | int k =>
            cases r2
            have q : SPost X W Z0 H0 Z (Out.of (oR (ixN ds.length k)) ρ fun j => .nx (ρ.set i (.o (.list (ds.set j d))))) En := q
            cases hj : ixN ds.length k with
            | none => rw [hj] at q; exact q.elim
            | some j =>
              rw [hj] at q
              have x12 := x1.trans x2
              have zl : Z2 l = none := x12.nw l _ hz hH
              refine ⟨l, xs, k, j, rfl, rfl, x12.hh _ _ hH, by rw [rds.length]; exact hj, ?_⟩
              refine q _ _ _ (Rep.mutate (r.step x12) hr hl h0 zl ?_) x12.zz
              exact .lst zl upd_same ((rds.mono x12.zz).set2 (r1.mono x2.zz) j)
          | _ => exact q.elim
      | _ => exact q.elim
    | _ => exact q.elim
/-- targets = x.pop() -/
def sPopA (i : Nat) (A : EG) : ES := fun ρ => Out.of (slO ρ[i]?) ρ fun ds => Out.of (oR ds.getLast?) ρ fun d => Out.of (A d (ρ.set i (.o (.list ds.dropLast)))) ρ .nx
theorem RDs.dropLast {w : World} {K : PySem.W.Frag} {Z : Hp} {vs : List V} {ds : List D} (h : RDs w K Z vs ds) : RDs w K Z vs.dropLast ds.dropLast := by
  rw [List.dropLast_eq_take, List.dropLast_eq_take, h.length]
  exact h.take _
theorem es_popA (i : Nat) {x : Str} {ap cp : Pos} {A : EG} {js : List Nat} (hg : Eg X tg A js) (hi : X.N[i]? = some x := by rfl) (hv : Vis X.env.scope x := by first | exact Or.inl rfl | exact Or.inr (Or.inl rfl) | exact Or.inr (Or.inr rfl)) (hd : (x == ("__debug__" : Str)) = false := by decide)
    (hcd : (x == ("__classdict__" : Str)) = false := by decide)
    (hbase : attributeBase (.Name x p) "pop" X.env (eval (.Name x p) X.env) = eval (.Name x p) X.env := by rfl) (hline : (ap.endLine == cp.line) = true := by rfl)
    (hs : swapsWithSole [tg] (.Call (.Attribute (.Name x p) "pop" ap) [] [] cp) pos.line X.env = pure false := by rfl) (hw : swappedStores [tg] (.Call (.Attribute (.Name x p) "pop" ap) [] [] cp) X.env = pure none := by rfl)
    (h1 : (assignEach [tg] X.env).map (·.2) = [assign tg X.env] := by rfl) : Es X W (.Assign [tg] (.Call (.Attribute (.Name x p) "pop" ap) [] [] cp) pos) (sPopA i A) := by
  refine ⟨fun {Z0 H0 Z H σ ρ En} r q => toAtS (ps_asg (pe_bm0 PySem.F.plainAttrs_list PySem.F.slot_list_pop PySem.F.type_list_pop mt_pop (pe_var hi hv hd hcd) hbase hline) pg_at hs hw h1) ?_⟩
  unfold sPopA at q
  cases hr : ρ[i]? with
  | none => rw [hr] at q; exact q.elim
  | some s =>
    rw [hr] at q
    cases s with
    | o dd =>
      cases dd with
      | list ds =>
        have q : SPost X W Z0 H0 Z (Out.of (oR ds.getLast?) ρ fun d => Out.of (A d (ρ.set i (.o (.list ds.dropLast)))) ρ .nx) En := q
        obtain ⟨l, hl, ho, h0⟩ := r.getO hr
        cases ho with
        | lst hz hH rds =>
          rename_i xs
          refine ⟨_, hl, .inl ⟨rfl, xs, .inl (.inl hH)⟩, ?_⟩
          cases hlast : ds.getLast? with
          | none => rw [hlast] at q; exact q.elim
          | some d =>
            rw [hlast] at q
            have q : SPost X W Z0 H0 Z (Out.of (A d (ρ.set i (.o (.list ds.dropLast)))) ρ .nx) En := q
            have hd : ds[ds.length - 1]? = some d := by rw [List.getLast?_eq_getElem?] at hlast; exact hlast
            obtain ⟨v, hv1, rv⟩ := rds.get hd
            refine ⟨l, xs, v, rfl, rfl, hH, by rw [rds.length]; exact hv1, ?_⟩
            have rm := Rep.mutate r hr hl h0 hz (Own.lst (w := X.w) (K := X.K) (H := upd H l (.lst xs.dropLast)) hz upd_same rds.dropLast)
            refine hg.go rm rv ?_
            have cl := hg.cl d (ρ.set i (.o (.list ds.dropLast)))
            cases e1 : A d (ρ.set i (.o (.list ds.dropLast))) with
            | ok ρ1 => rw [e1] at q; exact fun σ' o r' => q _ _ _ r' (Same.refl _)
            | exc x => rw [e1] at cl; exact cl.elim
            | stuck => rw [e1] at q; exact q.elim
      | _ => exact q.elim
    | _ => exact q.elim
/-- x.extend(e) -/
def asL : D → R (List D)
  | .list ds => .ok ds
  | _ => .stuck
def sExt (i : Nat) (F : EV) : ES := fun ρ => Out.of (slO ρ[i]?) ρ fun ds => Out.of (F ρ >>= asL) ρ fun es => Out.of (guardR (fits (ds.length + es.length)) ()) ρ fun _ => .nx (ρ.set i (.o (.list (ds ++ es))))
theorem es_ext (i : Nat) {x : Str} {ap cp pe : Pos} (h : Ev X W e F) (hi : X.N[i]? = some x := by rfl) (hv : Vis X.env.scope x := by first | exact Or.inl rfl | exact Or.inr (Or.inl rfl) | exact Or.inr (Or.inr rfl)) (hd : (x == ("__debug__" : Str)) = false := by decide)
    (hcd : (x == ("__classdict__" : Str)) = false := by decide) (hs : swapsWith (.Call (.Attribute (.Name x p) "extend" ap) [e] [] cp) none pe.line X.env = pure false := by rfl)
    (hbase : attributeBase (.Name x p) "extend" X.env (eval (.Name x p) X.env) = eval (.Name x p) X.env := by rfl)
    (hfew : ((backTo cp (starEach (e :: []) X.env)).all (fun x => !x.1) && (backToKw cp (keywordEach [] X.env)).all (fun x => x.1.isSome)
      && decide ((e :: ([] : List Expr)).length + ([] : List Keyword).length + (if ([] : List Keyword).isEmpty then 0 else 1) < 30)) = true := by rfl)
    (hline : (ap.endLine == cp.line) = true := by rfl) (hs' : starEach (e :: []) X.env = (false, eval e X.env) :: starEach [] X.env := by rfl) (hplain : (backTo cp (starEach [] X.env)).any (·.1) = false := by rfl) :
    Es X W (.Expr (.Call (.Attribute (.Name x p) "extend" ap) [e] [] cp) pe) (sExt i F) := by
  refine ⟨fun {Z0 H0 Z H σ ρ En} r q => toAtS (ps_expr (pe_bm PySem.F.plainAttrs_list PySem.F.slot_list_extend PySem.F.type_list_extend mt_extend (pe_var hi hv hd hcd) (pa_cons pe_at pa_nil hs') hbase hfew hline hs' hplain) hs) ?_⟩
  unfold sExt at q
  cases hr : ρ[i]? with
  | none => rw [hr] at q; exact q.elim
  | some s =>
    rw [hr] at q
    cases s with
    | o dd =>
      cases dd with
      | list ds =>
        have q : SPost X W Z0 H0 Z (Out.of (F ρ >>= asL) ρ fun es => Out.of (guardR (fits (ds.length + es.length)) ()) ρ fun _ => .nx (ρ.set i (.o (.list (ds ++ es))))) En := q
        obtain ⟨l, hl, ho, h0⟩ := r.getO hr
        cases ho with
        | lst hz hH rds =>
          rename_i xs
          refine ⟨_, hl, .inl ⟨rfl, xs, .inl (.inl hH)⟩, ?_⟩
          refine h.go r ((q.post r).bind.mono fun d q u Z1 H1 x1 r1 => ?_)
          cases d with
          | list es =>
            cases r1 with
            | lst g1 g2 =>
              have q : SPost X W Z0 H0 Z (Out.of (guardR (fits (ds.length + es.length)) ()) ρ fun _ => .nx (ρ.set i (.o (.list (ds ++ es))))) En := q
              unfold guardR at q
              split at q
              · rename_i hf
                have hf := fits_le hf
                have zl : Z1 l = none := x1.nw l _ hz hH
                refine ⟨l, _, xs, _, rfl, rfl, x1.hh _ _ hH, x1.zh _ _ g1, by rw [rds.length, g2.length]; exact hf, ?_⟩
                refine q _ _ _ (Rep.mutate (r.step x1) hr hl h0 zl ?_) x1.zz
                exact .lst zl upd_same ((rds.mono x1.zz).append g2)
              · exact q.elim
          | _ => exact q.elim
      | _ => exact q.elim
    | _ => exact q.elim

/-! ### sum, min, max of a list of whole numbers -/
def intL : List D → R (List Int)
  | [] => .ok []
  | .int b :: r => intL r >>= fun bs => .ok (b :: bs)
  | _ :: _ => .stuck
theorem ints_map (bs : List Int) : intL (bs.map .int) = .ok bs := by
  induction bs with
  | nil => rfl
  | cons b bs ih => rw [List.map_cons, intL, ih]; rfl
theorem ints_ok : ∀ {ds : List D} {bs : List Int}, intL ds = .ok bs → ds = bs.map .int
  | [], bs, h => by cases h; rfl
  | .int b :: r, bs, h => by
    rw [intL] at h
    cases e : intL r with
    | ok cs => rw [e, R.ok_bind] at h; cases h; rw [List.map_cons, ints_ok e]
    | exc x => rw [e] at h; cases h
    | stuck => rw [e] at h; cases h
  | .none :: _, _, h => by cases h
  | .bool _ :: _, _, h => by cases h
  | .str _ :: _, _, h => by cases h
  | .list _ :: _, _, h => by cases h
  | .tuple _ :: _, _, h => by cases h
  | .dict _ :: _, _, h => by cases h
theorem ints_clean : ∀ ds : List D, (intL ds).clean
  | [] => trivial
  | .int b :: r => by rw [intL]; exact clean_bind (ints_clean r) fun _ => trivial
  | .none :: _ => trivial
  | .bool _ :: _ => trivial
  | .str _ :: _ => trivial
  | .list _ :: _ => trivial
  | .tuple _ :: _ => trivial
  | .dict _ :: _ => trivial
def lmin : Int → List Int → Int
  | m, [] => m
  | m, x :: xs => lmin (if x < m then x else m) xs
def lmax : Int → List Int → Int
  | m, [] => m
  | m, x :: xs => lmax (if m < x then x else m) xs
theorem lmin_le : ∀ (m : Int) (xs : List Int), lmin m xs ≤ m ∧ ∀ y ∈ xs, lmin m xs ≤ y
  | m, [] => ⟨Int.le_refl _, fun _ h => by cases h⟩
  | m, x :: xs => by
    obtain ⟨h1, h2⟩ := lmin_le (if x < m then x else m) xs
    rw [lmin]
    refine ⟨by split at h1 <;> rename_i q <;> simp [q] <;> omega, fun y hy => ?_⟩
    rcases List.mem_cons.mp hy with rfl | hy
    · split at h1 <;> rename_i q <;> simp [q] <;> omega
    · exact h2 y hy
theorem lmin_mem : ∀ (m : Int) (xs : List Int), lmin m xs = m ∨ lmin m xs ∈ xs
  | m, [] => .inl rfl
  | m, x :: xs => by
    rw [lmin]
    rcases lmin_mem (if x < m then x else m) xs with h | h
    · by_cases q : x < m
      · right; rw [if_pos q] at h ⊢; rw [h]; exact List.mem_cons_self
      · left; rw [if_neg q] at h ⊢; exact h
    · right; exact List.mem_cons_of_mem _ h
theorem lmax_ge : ∀ (m : Int) (xs : List Int), m ≤ lmax m xs ∧ ∀ y ∈ xs, y ≤ lmax m xs
  | m, [] => ⟨Int.le_refl _, fun _ h => by cases h⟩
  | m, x :: xs => by
    obtain ⟨h1, h2⟩ := lmax_ge (if m < x then x else m) xs
    rw [lmax]
    refine ⟨by split at h1 <;> rename_i q <;> simp [q] <;> omega, fun y hy => ?_⟩
    rcases List.mem_cons.mp hy with rfl | hy
    · split at h1 <;> rename_i q <;> simp [q] <;> omega
    · exact h2 y hy
theorem lmax_mem : ∀ (m : Int) (xs : List Int), lmax m xs = m ∨ lmax m xs ∈ xs
  | m, [] => .inl rfl
  | m, x :: xs => by
    rw [lmax]
    rcases lmax_mem (if m < x then x else m) xs with h | h
    · by_cases q : m < x
      · right; rw [if_pos q] at h ⊢; rw [h]; exact List.mem_cons_self
      · left; rw [if_neg q] at h ⊢; exact h
    · right; exact List.mem_cons_of_mem _ h
def dSum : List D → R D
  | [.list ds] => intL ds >>= fun ns => .ok (.int ns.sum)
  | _ => .stuck
def dMinL : List D → R D
  | [.list ds] => intL ds >>= fun ns => match ns with
    | m :: ns => .ok (.int (lmin m ns))
    | [] => .stuck
  | _ => .stuck
def dMaxL : List D → R D
  | [.list ds] => intL ds >>= fun ns => match ns with
    | m :: ns => .ok (.int (lmax m ns))
    | [] => .stuck
  | _ => .stuck
theorem cl_sum (x : List D) : (dSum x).clean := by unfold dSum; split <;> first | trivial | exact clean_bind (ints_clean _) fun _ => trivial
theorem cl_minL (x : List D) : (dMinL x).clean := by unfold dMinL; split <;> first | trivial | exact clean_bind (ints_clean _) fun ns => by cases ns <;> trivial
theorem cl_maxL (x : List D) : (dMaxL x).clean := by unfold dMaxL; split <;> first | trivial | exact clean_bind (ints_clean _) fun ns => by cases ns <;> trivial
theorem cd_sum : CaD X (rSum X.K) dSum := by
  intro Z H xs ds Q s r h
  unfold dSum at h
  split at h
  · rename_i ds
    obtain ⟨v, rfl, r0⟩ := rds1 r
    cases e : intL ds with
    | ok ns =>
      rw [e] at h
      have ed := ints_ok e
      subst ed
      cases r0 with
      | lst h1 r1 =>
        have := rds_ints r1
        subst this
        exact ⟨_, ns, rfl, .inl (.inl (s _ _ h1)), h _ _ _ (Ext.refl s) (.int _)⟩
    | exc x => rw [e] at h; exact h.elim
    | stuck => rw [e] at h; exact h.elim
  · exact h.elim
theorem cd_minL : CaD X (rMin X.K) dMinL := by
  intro Z H xs ds Q s r h
  unfold dMinL at h
  split at h
  · rename_i ds
    obtain ⟨v, rfl, r0⟩ := rds1 r
    cases e : intL ds with
    | ok ns =>
      rw [e] at h
      have ed := ints_ok e
      subst ed
      cases ns with
      | nil => exact h.elim
      | cons m ns =>
        cases r0 with
        | lst h1 r1 =>
          have := rds_ints r1
          subst this
          refine ⟨_, m :: ns, rfl, .inl (.inl (s _ _ h1)), Nat.succ_pos _, fun k hk hle => ?_⟩
          have ek : k = lmin m ns := by
            obtain ⟨g1, g2⟩ := lmin_le m ns
            have g3 : lmin m ns ∈ m :: ns := by
              rcases lmin_mem m ns with z | z
              · rw [z]; exact List.mem_cons_self
              · exact List.mem_cons_of_mem _ z
            have g4 := hle _ g3
            have g5 : lmin m ns ≤ k := by
              rcases List.mem_cons.mp hk with z | z
              · rw [z]; exact g1
              · exact g2 _ z
            omega
          rw [ek]
          exact h _ _ _ (Ext.refl s) (.int _)
    | exc x => rw [e] at h; exact h.elim
    | stuck => rw [e] at h; exact h.elim
  · exact h.elim
theorem cd_maxL : CaD X (rMax X.K) dMaxL := by
  intro Z H xs ds Q s r h
  unfold dMaxL at h
  split at h
  · rename_i ds
    obtain ⟨v, rfl, r0⟩ := rds1 r
    cases e : intL ds with
    | ok ns =>
      rw [e] at h
      have ed := ints_ok e
      subst ed
      cases ns with
      | nil => exact h.elim
      | cons m ns =>
        cases r0 with
        | lst h1 r1 =>
          have := rds_ints r1
          subst this
          refine ⟨_, m :: ns, rfl, .inl (.inl (s _ _ h1)), Nat.succ_pos _, fun k hk hle => ?_⟩
          have ek : k = lmax m ns := by
            obtain ⟨g1, g2⟩ := lmax_ge m ns
            have g3 : lmax m ns ∈ m :: ns := by
              rcases lmax_mem m ns with z | z
              · rw [z]; exact List.mem_cons_self
              · exact List.mem_cons_of_mem _ z
            have g4 := hle _ g3
            have g5 : k ≤ lmax m ns := by
              rcases List.mem_cons.mp hk with z | z
              · rw [z]; exact g1
              · exact g2 _ z
            omega
          rw [ek]
          exact h _ _ _ (Ext.refl s) (.int _)
    | exc x => rw [e] at h; exact h.elim
    | stuck => rw [e] at h; exact h.elim
  · exact h.elim
theorem ev_sum (hc : X.calm = true) (hm : X.mg "sum" = none) (ha : Ea X W [a] Fs) (hg : Gl X "sum" := by rfl) : Ev X W (.Call (.Name "sum" p) [a] [] pos) (eA dSum Fs) :=
  ev_A (fun h => pe_callB (cr_sum hc) hg hm (by decide +kernel) h (he := ha.se _ _ rfl) (hpl := ha.plt _ _ rfl _)) cd_sum cl_sum ha
theorem ev_minL (hc : X.calm = true) (hm : X.mg "min" = none) (ha : Ea X W [a] Fs) (hg : Gl X "min" := by rfl) : Ev X W (.Call (.Name "min" p) [a] [] pos) (eA dMinL Fs) :=
  ev_A (fun h => pe_callB (cr_min hc) hg hm (by decide +kernel) h (he := ha.se _ _ rfl) (hpl := ha.plt _ _ rfl _)) cd_minL cl_minL ha
theorem ev_maxL (hc : X.calm = true) (hm : X.mg "max" = none) (ha : Ea X W [a] Fs) (hg : Gl X "max" := by rfl) : Ev X W (.Call (.Name "max" p) [a] [] pos) (eA dMaxL Fs) :=
  ev_A (fun h => pe_callB (cr_max hc) hg hm (by decide +kernel) h (he := ha.se _ _ rfl) (hpl := ha.plt _ _ rfl _)) cd_maxL cl_maxL ha
end
@[simp] theorem x_sSetIx (i : Nat) (F G : EV) (ρ : Rho) : sSetIx i F G ρ = Out.of (F ρ) ρ fun d => Out.of (slO ρ[i]?) ρ fun ds => Out.of (G ρ >>= asI) ρ fun k => Out.of (oR (ixN ds.length k)) ρ fun j => .nx (ρ.set i (.o (.list (ds.set j d)))) := id rfl
@[simp] theorem x_sPopA (i : Nat) (A : EG) (ρ : Rho) : sPopA i A ρ = Out.of (slO ρ[i]?) ρ fun ds => Out.of (oR ds.getLast?) ρ fun d => Out.of (A d (ρ.set i (.o (.list ds.dropLast)))) ρ .nx := id rfl
@[simp] theorem x_sExt (i : Nat) (F : EV) (ρ : Rho) : sExt i F ρ = Out.of (slO ρ[i]?) ρ fun ds => Out.of (F ρ >>= asL) ρ fun es => Out.of (guardR (fits (ds.length + es.length)) ()) ρ fun _ => .nx (ρ.set i (.o (.list (ds ++ es)))) := id rfl
@[simp] theorem x_asL (ds : List D) : asL (.list ds) = .ok ds := id rfl
@[simp] theorem x_dSum (ns : List Int) : dSum [.list (ns.map .int)] = .ok (.int ns.sum) := by rw [dSum, ints_map]; rfl
end PQ

/-! PQ.21: try .. except X: (one or more, without a name) -/
namespace PQ
open PySem PySem.Spec PyProof.Rows L2

/-- of a handler: whose exceptions it takes, its suite -/
abbrev Hnd := List (Str × Bool) × ES
/-- a suite lets no exception out -/
def noExc : Out → Out
  | .exc _ _ => .stuck
  | o => o
@[simp] theorem noExc_nx (ρ : Rho) : noExc (.nx ρ) = .nx ρ := id rfl
@[simp] theorem noExc_ret (d : D) : noExc (.ret d) = .ret d := id rfl
@[simp] theorem noExc_bk (ρ : Rho) : noExc (.bk ρ) = .bk ρ := id rfl
@[simp] theorem noExc_ct (ρ : Rho) : noExc (.ct ρ) = .ct ρ := id rfl
def hnd : List Hnd → Exc → Rho → Out
  | [], x, ρ => .exc x ρ
  | (t, S) :: r, x, ρ => match t.lookup x.cls with
    | some true => noExc (S ρ)
    | some false => hnd r x ρ
    | none => .stuck
def Out.catch' (o : Out) (hs : List Hnd) : Out := match o with
  | .exc x ρ => hnd hs x ρ
  | o => o
def sTry (S : ES) (hs : List Hnd) : ES := fun ρ => (S ρ).catch' hs
@[simp] theorem x_sTry (S : ES) (hs : List Hnd) (ρ : Rho) : sTry S hs ρ = (S ρ).catch' hs := id rfl
@[simp] theorem catch_nx (ρ : Rho) (hs : List Hnd) : (Out.nx ρ).catch' hs = .nx ρ := id rfl
@[simp] theorem catch_ret (d : D) (hs : List Hnd) : (Out.ret d).catch' hs = .ret d := id rfl
@[simp] theorem catch_bk (ρ : Rho) (hs : List Hnd) : (Out.bk ρ).catch' hs = .bk ρ := id rfl
@[simp] theorem catch_ct (ρ : Rho) (hs : List Hnd) : (Out.ct ρ).catch' hs = .ct ρ := id rfl
@[simp] theorem catch_exc (x : Exc) (ρ : Rho) (hs : List Hnd) : (Out.exc x ρ).catch' hs = hnd hs x ρ := id rfl
section
variable {X : Cx} {W : WX} {Z0 H0 Z H : Hp} {σ : St} {ρ : Rho}
inductive Hs (X : Cx) : List ExceptHandler → List Hnd → Prop
  | nil : Hs X [] []
  | cons {x : Str} {c : Value} {tab : List (Str × Bool)} {S : ES} {b₀ : Stmt} {suite : List Stmt} {np pos' : Pos} {hds : List ExceptHandler} {l : List Hnd} (hc : Names X x c)
      (ht : ∀ n b, tab.lookup n = some b → ∀ C, X.mg n = some (.ref C) → PySem.W.exmOne X.K (.ref C) c = some b)
      (hsu : ∀ (a : Addr) (pn : List (Addr × Obj)), Ess (X.suite a pn) WF (b₀ :: suite) S) (r : Hs X hds l) : Hs X (.ExceptHandler (some (.Name x np)) none (b₀ :: suite) pos' :: hds) ((tab, S) :: l)
def wishTo (X : Cx) (suite : List Stmt) : Addr → Value → Option Addr → TS := fun a cls d D σ H => ∀ oe, Zc cls d oe → (∃ vs, oe.data = .fields vs) → ∀ pn, PSsat (X.suite a ((a, oe) :: pn)) suite D σ H
theorem Hs.l2 {hds : List ExceptHandler} {l : List Hnd} (h : Hs X hds l) (Wout : WX) : ∃ l', HdsOk X hds l' ∧ ∀ (x : Exc) (ρ : Rho) {Z0 H0 Z H : Hp} {σ : St} {D : Ends} {cls : Value} {dx : Option Addr}, Rep X.w X.K Z0 H0 Z H σ ρ → RX X.w X.K X.mg Z x cls dx → SPost X Wout Z0 H0 Z (hnd l x ρ) D → wMany X.K Wout D l' cls dx σ H := by
  induction h with
  | nil => exact ⟨[], .nil, fun x ρ Z0 H0 Z H σ D cls dx r rx q => q _ _ _ _ _ r (Same.refl _) rx⟩
  | @cons x c tab S b₀ suite np pos' hds l hc ht hsu r ih =>
    obtain ⟨l', h1, h2⟩ := ih
    refine ⟨(c, wishTo X (b₀ :: suite)) :: l', .cons hc (fun a oe cls d pn hz hv => ⟨fun pins s σ H D I q => q oe hz hv pn pins s I⟩) h1, fun x ρ Z0 H0 Z H σ D cls dx rp rx q => ?_⟩
    have hcls : ∃ C, X.mg x.cls = some (.ref C) ∧ cls = .ref C := by
      cases rx with
      | bare g => exact ⟨_, g, rfl⟩
      | fld g _ _ => exact ⟨_, g, rfl⟩
    obtain ⟨C, g, rfl⟩ := hcls
    unfold hnd at q
    cases e : tab.lookup x.cls with
    | none => rw [e] at q; exact q.elim
    | some b =>
      rw [e] at q
      refine ⟨b, ht _ _ e C g, fun hb a ha => ?_, fun hb => ?_⟩
      · subst hb
        intro oe hz hv pn
        refine (hsu a ((a, oe) :: pn)).go rp ?_
        have q : SPost X Wout Z0 H0 Z (noExc (S ρ)) D := q
        cases e2 : S ρ with
        | nx ρ2 => rw [e2] at q; exact q
        | ret d => rw [e2] at q; exact q
        | bk ρ2 => rw [e2] at q; exact q
        | ct ρ2 => rw [e2] at q; exact q
        | exc y ρ2 => rw [e2] at q; exact q.elim
        | stuck => rw [e2] at q; exact q.elim
      · subst hb
        exact h2 x ρ rp rx q
theorem es_try {body : List Stmt} {h₀ : ExceptHandler} {hds : List ExceptHandler} {pos : Pos} {S : ES} {l : List Hnd} (hs : X.stack = X.env :: X.outer) (hf : X.env.frame = some X.env.locals) (tk : Takes X W)
    (hb : ∀ (W' : WX) (pn : List (Addr × Obj)) (xe : Value → Shared → Prop), Takes (X.tr pn xe) W' → PassesOwn (model X.prog X.w) X.A X.env xe → Ess (X.tr pn xe) W' body S) (hh : Hs X (h₀ :: hds) l) :
    Es X W (.Try body (h₀ :: hds) [] [] pos) (sTry S l) := by
  obtain ⟨l', g1, g2⟩ := hh.l2 W
  refine ⟨fun {Z0 H0 Z H σ ρ En} r q => toAtS (ps_try_many (tb := fun W' D σ H => ∀ pn xe, Takes (X.tr pn xe) W' → PassesOwn (model X.prog X.w) X.A X.env xe → PSsat (X.tr pn xe) body D σ H) hs hf tk
    (fun W' pn xe t p => ⟨fun pins s σ H D I q => q pn xe t p pins s I⟩) g1) ?_⟩
  intro pn xe t p
  refine (hb _ pn xe t p).go r ?_
  unfold sTry at q
  cases e : S ρ with
  | nx ρ2 => rw [e] at q; exact q
  | ret d => rw [e] at q; exact q
  | bk ρ2 => rw [e] at q; exact q
  | ct ρ2 => rw [e] at q; exact q
  | stuck => rw [e] at q; exact q.elim
  | exc x ρ2 =>
    rw [e] at q
    exact fun cls dx σ' Z' H' r' s' rx => g2 x ρ2 r' rx (SPost.step q s')
/-- what an own class's clause takes -/
theorem exm_own {K : PySem.W.Frag} {S C : Addr} {b : Bool} (h1 : PySem.W.subIn K (.ref S) (.type "BaseException") = some true) (h2 : PySem.W.isClsIn K C = true) (h3 : PySem.W.typeIn K (.ref C) = some (.type "type")) (h5 : PySem.W.subIn K (.ref C) (.type "BaseException") = some true)
    (h4 : PySem.W.subIn K (.ref S) (.ref C) = some b) : PySem.W.exmOne K (.ref S) (.ref C) = some b := by
  have e1 : (PySem.W.subIn K (.ref C) (.type "BaseException") == some true) = true := by rw [h5] <;> rfl
  have e2 : ((PySem.W.clsIn K C).isSome && PySem.W.typeIn K (.ref C) == some (.type "type")) = true := by
    have h2' : (PySem.W.clsIn K C).isSome = true := h2
    rw [h2', h3] <;> rfl
  show (if (PySem.W.subIn K (.ref C) (.type "BaseException") == some true) = true then (if ((PySem.W.clsIn K C).isSome && PySem.W.typeIn K (.ref C) == some (.type "type")) = true then PySem.W.subIn K (.ref S) (.ref C) else none) else none) = some b
  rw [if_pos e1, if_pos e2]
  exact h4
end
section
variable {K : PySem.W.Frag} {mg : Str → Option Value}
/-- the classes that a clause is asked of -/
abbrev TabOk (K : PySem.W.Frag) (mg : Str → Option Value) (c : Value) (tab : List (Str × Bool)) : Prop := ∀ n b, tab.lookup n = some b → ∀ C, mg n = some (.ref C) → PySem.W.exmOne K (.ref C) c = some b
theorem tab_nil {c : Value} : TabOk K mg c [] := fun _ _ h => by cases h
theorem tab_cons {c : Value} {n : Str} {b : Bool} {C : Addr} {tab : List (Str × Bool)} (g : mg n = some (.ref C)) (e : PySem.W.exmOne K (.ref C) c = some b) (r : TabOk K mg c tab) : TabOk K mg c ((n, b) :: tab) := by
  intro m d h C' g'
  rw [List.lookup_cons] at h
  split at h
  · rename_i q
    have q : m = n := eq_of_beq q
    subst q
    cases h
    rw [g] at g'
    cases g'
    exact e
  · exact r m d h C' g'
end
end PQ

/-! PQ.22: dicts: what stands at a key -/
namespace PQ
open PySem PySem.Spec PyProof.Rows L2

/-! ### data -/
def sameK (a b : D) : Bool := decide (keyD a = keyD b)
def dFind (kvs : List (D × D)) (k : D) : Option D := (kvs.find? fun p => sameK p.1 k).map (·.2)
def dPutL (kvs : List (D × D)) (k v : D) : List (D × D) := if kvs.any (fun p => sameK p.1 k) then kvs.map (fun p => if sameK p.1 k then (p.1, v) else p) else kvs ++ [(k, v)]
def flatKey : D → Option Key
  | .int i => some (.inl i)
  | .str x => some (.inr x)
  | _ => none
def flatB (d : D) : Bool := (flatKey d).isSome
/-- a tuple that may be a key -/
def tupKB : D → Bool
  | .tuple ds => match keyDs ds with
    | some ks => decide (NestedKey.depthAll ks ≤ 7)
    | none => false
  | _ => false
def okKs (ks : List D) : Bool := ks.all flatB || ks.all tupKB
def okK (kvs : List (D × D)) (k : D) : Bool := okKs (k :: kvs.map (·.1))
def nkOf : Key → NestedKey
  | .inl i => .num i
  | .inr x => .text x
theorem nkOf_inj {a b : Key} : nkOf a = nkOf b ↔ a = b := by
  cases a <;> cases b <;> simp [nkOf]
theorem flat_keyD {d : D} {k : Key} (h : flatKey d = some k) : keyD d = some (nkOf k) := by
  cases d <;> simp [flatKey] at h <;> subst h <;> rfl
theorem flat_same {a b : D} {j k : Key} (ha : flatKey a = some j) (hb : flatKey b = some k) : sameK a b = decide (j = k) := by
  unfold sameK
  rw [flat_keyD ha, flat_keyD hb]
  simp [nkOf_inj]
theorem keyD_same {a b : D} {j k : NestedKey} (ha : keyD a = some j) (hb : keyD b = some k) : sameK a b = decide (j = k) := by
  unfold sameK
  rw [ha, hb]
  simp
theorem tupKB_key {d : D} (h : tupKB d = true) : ∃ ks, keyD d = some (.tup ks) ∧ (NestedKey.tup ks).depth ≤ 8 := by
  unfold tupKB at h
  split at h
  · split at h
    · rename_i ds ks hk
      refine ⟨ks, by simp [keyD, hk], ?_⟩
      have := of_decide_eq_true h
      show NestedKey.depthAll ks + 1 ≤ 8
      omega
    · cases h
  · cases h

section
variable {X : Cx} {pins : List (Addr × Obj)} {σ : St} {H Z : Hp} {s : Shared}
theorem nested_tup {h : Heap} {p : Addr} {its : Array Value} {ks : List NestedKey} (ht : IsTup h p its) (hk : NestedAll h ks its.toList) : NestedIs h (.tup ks) (.ref p) := by
  obtain ⟨o, h1, h2, n, h3⟩ := ht
  exact .tup h1 h2 h3 hk
mutual
theorem rd_nested (I : Inv X pins σ H s) (sz : Same Z H) : ∀ (v : V) (d : D) (u : Value) (nk : NestedKey), RD X.w X.K Z v d → RelV v u → keyD d = some nk → NestedIs s.heap nk u
  | _, _, u, nk, .non, r, e => by
    obtain rfl : u = Value.none := r
    simp [keyD] at e; subst e; exact .none
  | _, _, u, nk, .bl b, r, e => by
    obtain rfl : u = Value.bool b := r
    simp [keyD] at e; subst e; exact .bool rfl
  | _, _, u, nk, .int i, r, e => by
    obtain ⟨t, rfl⟩ := (show ∃ t, u = Value.int i t from r)
    simp [keyD] at e; subst e; exact .int _ _
  | _, _, u, nk, .str x, r, e => by
    obtain ⟨t, rfl⟩ := (show ∃ t, u = Value.str x t from r)
    simp [keyD] at e; subst e; exact .text _ _
  | _, _, u, nk, .lst _ _, r, e => by simp [keyD] at e
  | _, _, u, nk, .tup (a := a) (ds := ds) h rs, r, e => by
    obtain rfl : u = Value.ref a := r
    obtain ⟨its, rv, hl, hz⟩ := I.tuple (SqT.mono sz h)
    rw [keyD, Option.map_eq_some_iff] at e
    obtain ⟨ks, hk, rfl⟩ := e
    exact nested_tup hl (rds_nested I sz _ _ _ _ rs rv hk)
  | _, _, u, nk, .dct _ _ _ _ _ _ _, r, e => by simp [keyD] at e
theorem rds_nested (I : Inv X pins σ H s) (sz : Same Z H) : ∀ (vs : List V) (ds : List D) (us : List Value) (ks : List NestedKey), RDs X.w X.K Z vs ds → Vals vs us → keyDs ds = some ks → NestedAll s.heap ks us
  | _, _, us, ks, .nil, r, e => by
    cases r
    simp [keyDs] at e; subst e; exact .nil
  | _, _, us, ks, .cons (d := d) (ds := ds) h t, r, e => by
    cases r with
    | cons r1 rr =>
      simp only [keyDs, Option.bind_eq_some_iff, Option.map_eq_some_iff] at e
      obtain ⟨k, h1, ks, h2, rfl⟩ := e
      exact .cons (rd_nested I sz _ _ _ _ h r1 h1) (rds_nested I sz _ _ _ _ t rr h2)
end

/-- the dict at a, in the heap h -/
structure DictAt (w : World) (K : PySem.W.Frag) (Z : Hp) (h : Heap) (a : Addr) (kvs : List (D × D)) : Prop where
  at' : ∃ o es ep, h.get? a = some o ∧ o.ExactDict ∧ o.data = .dict es ep ∧ RDE w K Z es.toList kvs
  sys : (a == sysModules) = false
  len : kvs.length ≤ sizeLine
  nd : nodupK kvs
theorem raw_get (I : Inv X pins σ H s) {a : Addr} {o : Obj} (h : H a = some (rawH a o)) : s.heap.get? a = some o := (show ObjOk X.prog X.w H s.heap a (rawH a o) from I.hok a _ h).1
theorem k_get (I : Inv X pins σ H s) {a : Addr} {o : Obj} (h : X.K.lookup a = some o) : s.heap.get? a = some o := I.kIn _ _ h
theorem rd_dict (I : Inv X pins σ H s) (sz : Same Z H) {v : V} {kvs : List (D × D)} (r : RD X.w X.K Z v (.dict kvs)) : ∃ a, v = .ref a ∧ DictAt X.w X.K Z s.heap a kvs := by
  cases r with
  | dct h1 h2 h3 h4 h5 h6 h7 =>
    refine ⟨_, rfl, ⟨_, _, _, ?_, h3, h4, h7⟩, h2, h5, h6⟩
    rcases h1 with h1 | h1
    · exact raw_get I (sz _ _ h1)
    · exact k_get I h1

/-! ### keys that are ints and texts -/
abbrev FlatR (w : World) (K : PySem.W.Frag) (Z : Hp) : List (D × D) → List (Key × Value) → Prop := Paired fun p q => flatKey p.1 = some q.1 ∧ ∃ v, RelV v q.2 ∧ RD w K Z v p.2
abbrev TupR (w : World) (K : PySem.W.Frag) (Z : Hp) : List (D × D) → List (NestedKey × Addr × Value) → Prop := Paired fun p q => (keyD p.1 = some q.1 ∧ RD w K Z (.ref q.2.1) p.1) ∧ ∃ v, RelV v q.2.2 ∧ RD w K Z v p.2
theorem flat_val {w : World} {K : PySem.W.Frag} {u : Value} {v : V} {d : D} {k : Key} (r : RD w K Z v d) (rv : RelV v u) (hk : flatKey d = some k) {P : Program} : (mixKind P w).is k u = true := by
  cases r <;> simp [flatKey] at hk
  · subst hk; exact kV_is (k := .inl _) rv
  · subst hk; exact kV_is (k := .inr _) rv
theorem flat_list {P : Program} {w : World} {K : PySem.W.Frag} : ∀ {l : List DictEntry} {kvs : List (D × D)}, RDE w K Z l kvs → (∀ p ∈ kvs, flatB p.1 = true) →
    ∃ vs : List (Key × Value), Pairs (mixKind P w) l vs ∧ (∀ e ∈ l, ∃ k, (mixKind P w).is k e.key = true ∧ e.hash = (mixKind P w).hash k) ∧ FlatR w K Z kvs vs
  | _, _, .nil, _ => ⟨[], .nil, (fun _ h => nomatch h), .nil⟩
  | _, _, .cons (e := e) (kd := kd) (nk := nk) h1 h2 h3 h4 r1 r2 t, f => by
    obtain ⟨vs, p1, p2, p3⟩ := flat_list (P := P) t fun p hp => f p (List.mem_cons_of_mem _ hp)
    have hf := f _ (List.mem_cons_self)
    unfold flatB at hf
    obtain ⟨k, hk⟩ := Option.isSome_iff_exists.mp hf
    have hi : (mixKind P w).is k e.key = true := flat_val r1 h3 hk
    have hh : e.hash = (mixKind P w).hash k := by
      have q := flat_keyD hk
      rw [q] at h1
      cases h1
      rw [h2]
      cases k <;> rfl
    refine ⟨(k, e.val) :: vs, .cons hi rfl p1, fun e' he => ?_, .cons ⟨hk, _, h4, r2⟩ p3⟩
    rcases List.mem_cons.mp he with rfl | he
    · exact ⟨k, hi, hh⟩
    · exact p2 e' he
theorem FlatR.keys {w : World} {K : PySem.W.Frag} : ∀ {kvs : List (D × D)} {vs : List (Key × Value)}, FlatR w K Z kvs vs → kvs.map (fun p => keyD p.1) = (vs.map (·.1)).map fun k => some (nkOf k)
  | _, _, .nil => rfl
  | _, _, .cons h t => by rw [List.map_cons, List.map_cons, List.map_cons, FlatR.keys t, flat_keyD h.1]
theorem FlatR.nodup {w : World} {K : PySem.W.Frag} {kvs : List (D × D)} {vs : List (Key × Value)} (r : FlatR w K Z kvs vs) (h : nodupK kvs) : (vs.map (·.1)).Nodup := by
  unfold nodupK at h
  rw [r.keys] at h
  exact (List.pairwise_map.mp h).imp fun hab e => hab (by rw [e])
theorem FlatR.find {w : World} {K : PySem.W.Frag} {k : D} {kk : Key} (hk : flatKey k = some kk) : ∀ {kvs : List (D × D)} {vs : List (Key × Value)}, FlatR w K Z kvs vs →
    (∀ d, dFind kvs k = some d → ∃ u v, valueAt vs kk = some u ∧ RelV v u ∧ RD w K Z v d) ∧ (dFind kvs k = none → valueAt vs kk = none)
  | _, _, .nil => ⟨fun d h => by simp [dFind] at h, fun _ => rfl⟩
  | _, _, .cons (a := p) (b := q) h t => by
    obtain ⟨ih1, ih2⟩ := FlatR.find hk t
    obtain ⟨h1, v, rv, rd⟩ := h
    have e := flat_same h1 hk
    unfold dFind valueAt at ih1 ih2 ⊢
    rw [List.find?_cons, List.find?_cons, e]
    by_cases hq : q.1 = kk
    · simp only [hq, decide_true]
      exact ⟨fun d hd => ⟨_, v, rfl, rv, by cases hd; exact rd⟩, fun hn => by cases hn⟩
    · simp only [hq, decide_false]
      exact ⟨ih1, ih2⟩
theorem DictAt.flat {P : Program} {w : World} {K : PySem.W.Frag} {h : Heap} {a : Addr} {kvs : List (D × D)} (x : DictAt w K Z h a kvs) (f : ∀ p ∈ kvs, flatB p.1 = true) : ∃ vs, h.DictOf (mixKind P w) a vs ∧ FlatR w K Z kvs vs := by
  obtain ⟨o, es, ep, h1, h2, h3, h4⟩ := x.at'
  obtain ⟨vs, p1, p2, p3⟩ := flat_list (P := P) h4 f
  exact ⟨vs, ⟨o, es, ep, h1, h2, h3, fun e he => p2 e (by simpa using he), p1, p3.nodup x.nd⟩, p3⟩
/-! ### keys that are tuples -/
theorem tup_list {P : Program} {w : World} {K : PySem.W.Frag} : ∀ {l : List DictEntry} {kvs : List (D × D)}, RDE w K Z l kvs → (∀ p ∈ kvs, tupKB p.1 = true) →
    ∃ xs : List (NestedKey × Addr × Value), l = xs.map (entryOfKey (nestedKind P w)) ∧ TupR w K Z kvs xs
  | _, _, .nil, _ => ⟨[], rfl, .nil⟩
  | _, _, .cons (e := e) (kd := kd) (nk := nk) h1 h2 h3 h4 r1 r2 t, f => by
    obtain ⟨xs, p1, p3⟩ := tup_list (P := P) t fun p hp => f p (List.mem_cons_of_mem _ hp)
    have hf := f _ (List.mem_cons_self)
    cases r1 with
    | tup h rs =>
      rename_i p xs' ds
      obtain ⟨eh, ek, ev⟩ := e
      obtain rfl : ek = Value.ref p := h3
      refine ⟨(nk, p, ev) :: xs, ?_, .cons ⟨⟨h1, .tup h rs⟩, _, h4, r2⟩ p3⟩
      rw [List.map_cons, ← p1]
      have h2 : eh = nk.hash w := h2
      subst h2
      rfl
    | _ => simp [tupKB] at hf
theorem TupR.keys {w : World} {K : PySem.W.Frag} : ∀ {kvs : List (D × D)} {vs : List (NestedKey × Addr × Value)}, TupR w K Z kvs vs → kvs.map (fun p => keyD p.1) = (vs.map (·.1)).map some
  | _, _, .nil => rfl
  | _, _, .cons h t => by rw [List.map_cons, List.map_cons, List.map_cons, TupR.keys t, h.1.1]
theorem TupR.nodup {w : World} {K : PySem.W.Frag} {kvs : List (D × D)} {vs : List (NestedKey × Addr × Value)} (r : TupR w K Z kvs vs) (h : nodupK kvs) : (vs.map (·.1)).Nodup := by
  unfold nodupK at h
  rw [r.keys] at h
  exact (List.pairwise_map.mp h).imp fun hab e => hab (by rw [e])
theorem TupR.find {w : World} {K : PySem.W.Frag} {k : D} {kk : NestedKey} (hk : keyD k = some kk) : ∀ {kvs : List (D × D)} {vs : List (NestedKey × Addr × Value)}, TupR w K Z kvs vs →
    (∀ d, dFind kvs k = some d → ∃ b u v, atKey vs kk = some (b, u) ∧ RelV v u ∧ RD w K Z v d) ∧ (dFind kvs k = none → atKey vs kk = none)
  | _, _, .nil => ⟨fun d h => by simp [dFind] at h, fun _ => rfl⟩
  | _, _, .cons (a := p) (b := q) h t => by
    obtain ⟨ih1, ih2⟩ := TupR.find hk t
    obtain ⟨⟨h1, _⟩, v, rv, rd⟩ := h
    have e := keyD_same h1 hk
    unfold dFind atKey at ih1 ih2 ⊢
    rw [List.find?_cons, List.find?_cons, e]
    by_cases hq : q.1 = kk
    · simp only [hq, decide_true]
      exact ⟨fun d hd => ⟨_, _, v, rfl, rv, by cases hd; exact rd⟩, fun hn => by cases hn⟩
    · simp only [hq, decide_false]
      exact ⟨ih1, ih2⟩
theorem tup_is (I : Inv X pins σ H s) (sz : Same Z H) {p : Addr} {d : D} {nk : NestedKey} (r : RD X.w X.K Z (.ref p) d) (hk : keyD d = some nk) (ht : tupKB d = true) : (nestedKind X.prog X.w).is s.heap nk p := by
  obtain ⟨ks, h1, h2⟩ := tupKB_key ht
  rw [hk] at h1
  cases h1
  exact ⟨rd_nested I sz _ _ _ _ r rfl hk, h2⟩
theorem DictAt.tup (I : Inv X pins σ H s) (sz : Same Z H) {a : Addr} {kvs : List (D × D)} (x : DictAt X.w X.K Z s.heap a kvs) (f : ∀ p ∈ kvs, tupKB p.1 = true) : ∃ xs, s.heap.DictOfH (nestedKind X.prog X.w) a xs ∧ TupR X.w X.K Z kvs xs := by
  obtain ⟨o, es, ep, h1, h2, h3, h4⟩ := x.at'
  obtain ⟨xs, p1, p3⟩ := tup_list (P := X.prog) h4 f
  refine ⟨xs, ⟨o, es, ep, h1, h2, h3, p1, ?_, p3.nodup x.nd⟩, p3⟩
  have all : ∀ {kvs : List (D × D)} {xs : List (NestedKey × Addr × Value)}, TupR X.w X.K Z kvs xs → (∀ p ∈ kvs, tupKB p.1 = true) → ∀ q ∈ xs, (nestedKind X.prog X.w).is s.heap q.1 q.2.1 := by
    intro kvs xs t
    induction t with
    | nil => intro _ q hq; cases hq
    | cons h t ih =>
      intro f q hq
      rcases List.mem_cons.mp hq with rfl | hq
      · exact tup_is I sz h.1.2 h.1.1 (f _ List.mem_cons_self)
      · exact ih (fun p hp => f p (List.mem_cons_of_mem _ hp)) q hq
  exact all p3 f
/-- a value that may be a key of kvs: both ways -/
theorem okK_split {kvs : List (D × D)} {k : D} (h : okK kvs k = true) : ((∃ kk, flatKey k = some kk) ∧ ∀ p ∈ kvs, flatB p.1 = true) ∨ (tupKB k = true ∧ ∀ p ∈ kvs, tupKB p.1 = true) := by
  unfold okK okKs at h
  rw [Bool.or_eq_true, List.all_cons, List.all_cons, Bool.and_eq_true, Bool.and_eq_true, List.all_eq_true, List.all_eq_true] at h
  rcases h with ⟨h1, h2⟩ | ⟨h1, h2⟩
  · exact .inl ⟨Option.isSome_iff_exists.mp h1, fun p hp => h2 _ (List.mem_map_of_mem hp)⟩
  · exact .inr ⟨h1, fun p hp => h2 _ (List.mem_map_of_mem hp)⟩
end
end PQ

/-! PQ.23: dicts: d[k], k in d, d.get(k) -/
namespace PQ
open PySem PySem.Spec PyProof.Rows L2

section
variable {X : Cx} {pins : List (Addr × Obj)} {σ : St} {H Z : Hp} {s : Shared} {A : Around} {E : Value → Shared → Prop}
theorem DictAt.typeIs {w : World} {K : PySem.W.Frag} {a : Addr} {kvs : List (D × D)} (x : DictAt w K Z s.heap a kvs) : s.TypeIs (.ref a) "dict" := by
  obtain ⟨o, es, ep, h1, h2, _⟩ := x.at'
  exact ⟨o, h1, h2.1⟩
theorem DictAt.noDict {w : World} {K : PySem.W.Frag} {a : Addr} {kvs : List (D × D)} (x : DictAt w K Z s.heap a kvs) : ∀ b, Value.ref a = .ref b → ∃ ob, s.heap.get? b = some ob ∧ ob.dict = none := by
  intro b e
  cases e
  obtain ⟨o, es, ep, h1, h2, _⟩ := x.at'
  exact ⟨o, h1, h2.2.1⟩
theorem nroom (hu : A.units + 40 < cLine) : (nestedKind X.prog X.w).room A.in1 := by
  show A.units + 1 + 8 < cLine
  omega
/-- a key among the keys -/
structure KeyIs (X : Cx) (Z : Hp) (y : V) (k : D) (kvs : List (D × D)) : Prop where
  rd : RD X.w X.K Z y k
  ok : okK kvs k = true
/-- d[k], there -/
theorem dd_item {a : Addr} {kvs : List (D × D)} {y : V} {k d : D} {u : Value} {Q : Value → Shared → Prop} (hu : A.units + 40 < cLine) (I : Inv X pins σ H s) (sz : Same Z H) (x : DictAt X.w X.K Z s.heap a kvs) (hk : RD X.w X.K Z y k) (ok : okK kvs k = true) (ru : RelV y u)
    (hf : dFind kvs k = some d) (h : ∀ v w' s', Inv X pins σ H s' → RelV v w' → RD X.w X.K Z v d → Q w' s') : wpAny (model X.prog X.w) A (getItem (.ref a) u) Q E s := by
  rcases okK_split ok with ⟨⟨kk, h1⟩, h2⟩ | ⟨h1, h2⟩
  · obtain ⟨vs, dd, rel⟩ := x.flat (P := X.prog) h2
    obtain ⟨w', v, hw, rv, rd⟩ := (rel.find h1).1 _ hf
    exact wpAny_getItem_of (flat_val hk ru h1) dd.mapOf hw (h v w' _ (I.tok _) rv rd)
  · obtain ⟨xs, dd, rel⟩ := x.tup I sz h2
    obtain ⟨ks, hk1, _⟩ := tupKB_key h1
    obtain ⟨b, w', v, hw, rv, rd⟩ := (rel.find hk1).1 _ hf
    cases hk with
    | tup hh rs =>
      cases (show u = Value.ref _ from ru)
      exact wpAny_getItem_heap (nroom (X := X) hu) (tup_is I sz (.tup hh rs) hk1 h1) dd hw (h v w' _ (I.tok _) rv rd)
    | _ => simp [tupKB] at h1
/-- k in d, k not in d -/
theorem dd_in {a : Addr} {kvs : List (D × D)} {y : V} {k : D} {u : Value} {Q : Value → Shared → Prop} (neg : Bool) (hu : A.units + 40 < cLine) (I : Inv X pins σ H s) (sz : Same Z H) (x : DictAt X.w X.K Z s.heap a kvs) (hk : RD X.w X.K Z y k) (ok : okK kvs k = true) (ru : RelV y u)
    (h : ∀ s', Inv X pins σ H s' → Q (.bool (if neg then !(dFind kvs k).isSome else (dFind kvs k).isSome)) s') : wpAny (model X.prog X.w) A (compareOp (if neg then .NotIn else .In) u (.ref a)) Q E s := by
  rcases okK_split ok with ⟨⟨kk, h1⟩, h2⟩ | ⟨h1, h2⟩
  · obtain ⟨vs, dd, rel⟩ := x.flat (P := X.prog) h2
    have e : (valueAt vs kk).isSome = (dFind kvs k).isSome := by
      obtain ⟨f1, f2⟩ := rel.find h1
      cases hd : dFind kvs k with
      | none => rw [f2 hd]; rfl
      | some d => obtain ⟨u', v, e, _⟩ := f1 d hd; rw [e]; rfl
    cases neg with
    | false => exact wpAny_in_of (flat_val hk ru h1) x.sys dd.mapOf (by rw [e]; exact h _ (I.tok _))
    | true => exact wpAny_notIn_of (flat_val hk ru h1) x.sys dd.mapOf (by rw [e]; exact h _ (I.tok _))
  · obtain ⟨xs, dd, rel⟩ := x.tup I sz h2
    obtain ⟨ks, hk1, _⟩ := tupKB_key h1
    have e : (atKey xs (.tup ks)).isSome = (dFind kvs k).isSome := by
      obtain ⟨f1, f2⟩ := rel.find hk1
      cases hd : dFind kvs k with
      | none => rw [f2 hd]; rfl
      | some d => obtain ⟨b, u', v, e, _⟩ := f1 d hd; rw [e]; rfl
    cases hk with
    | tup hh rs =>
      cases (show u = Value.ref _ from ru)
      cases neg with
      | false => exact wpAny_in_heap (nroom (X := X) hu) (tup_is I sz (.tup hh rs) hk1 h1) x.sys dd (by rw [e]; exact h _ (I.tok _))
      | true => exact wpAny_notIn_heap (nroom (X := X) hu) (tup_is I sz (.tup hh rs) hk1 h1) x.sys dd (by rw [e]; exact h _ (I.tok _))
    | _ => simp [tupKB] at h1
/-- d.get(k), d.get(k, x) -/
theorem dd_get {a : Addr} {kvs : List (D × D)} {y : V} {k : D} {u : Value} {more : List (Value × V × D)} {Q : Value → Shared → Prop} (hu : A.units + 40 < cLine) (I : Inv X pins σ H s) (sz : Same Z H) (x : DictAt X.w X.K Z s.heap a kvs) (hk : RD X.w X.K Z y k) (ok : okK kvs k = true) (ru : RelV y u)
    (hm : more = [] ∨ ∃ r v d, more = [(r, v, d)] ∧ RelV v r ∧ RD X.w X.K Z v d)
    (h : ∀ v w' s', Inv X pins σ H s' → RelV v w' → RD X.w X.K Z v ((dFind kvs k).getD (match more with | [] => .none | (_, _, d) :: _ => d)) → Q w' s') : wpAny (model X.prog X.w) A (call (.builtin "dict.get") (.ref a :: u :: more.map (·.1))) Q E s := by
  rcases okK_split ok with ⟨⟨kk, h1⟩, h2⟩ | ⟨h1, h2⟩
  · obtain ⟨vs, dd, rel⟩ := x.flat (P := X.prog) h2
    obtain ⟨f1, f2⟩ := rel.find h1
    rcases hm with rfl | ⟨r, v, d, rfl, rv, rd⟩
    · refine call_meetsIn PySem.F.slot_dict_get dd.typeIs PySem.F.entry_dict_get (PySem.F.args_dict_get_2 _ _) (meets_dict_get (mixKind X.prog X.w) a (flat_val hk ru h1) x.sys) ⟨_, dd.mapOf, ?_⟩
      cases hd : dFind kvs k with
      | none => rw [f2 hd]; rw [hd] at h; exact h .non _ _ (I.tok _) rfl .non
      | some d => obtain ⟨u', v, e, rv, rd⟩ := f1 d hd; rw [e]; rw [hd] at h; exact h v _ _ (I.tok _) rv rd
    · refine call_meetsIn PySem.F.slot_dict_get dd.typeIs PySem.F.entry_dict_get (PySem.F.args_dict_get_3 _ _ _) (meets_dict_get_default (mixKind X.prog X.w) a (flat_val hk ru h1) x.sys r) ⟨_, dd.mapOf, ?_⟩
      cases hd : dFind kvs k with
      | none => rw [f2 hd]; rw [hd] at h; exact h v _ _ (I.tok _) rv rd
      | some d => obtain ⟨u', v, e, rv, rd⟩ := f1 d hd; rw [e]; rw [hd] at h; exact h v _ _ (I.tok _) rv rd
  · obtain ⟨xs, dd, rel⟩ := x.tup I sz h2
    obtain ⟨ks, hk1, _⟩ := tupKB_key h1
    obtain ⟨f1, f2⟩ := rel.find hk1
    cases hk with
    | @tup aa xs' ds hh rs =>
      cases (show u = Value.ref _ from ru)
      have ti := tup_is I sz (.tup hh rs) hk1 h1
      rcases hm with rfl | ⟨r, v, d, rfl, rv, rd⟩
      · refine call_meetsIn PySem.F.slot_dict_get dd.typeIs PySem.F.entry_dict_get (PySem.F.args_dict_get_2 _ _) (meetsH_dict_get (nestedKind X.prog X.w) a _ x.sys) ⟨nroom (X := X) hu, _, xs, ti, dd, ?_⟩
        cases hd : dFind kvs (.tuple ds) with
        | none => rw [f2 hd]; rw [hd] at h; exact h .non _ _ (I.tok _) rfl .non
        | some d => obtain ⟨b, u', v, e, rv, rd⟩ := f1 d hd; rw [e]; rw [hd] at h; exact h v _ _ (I.tok _) rv rd
      · refine call_meetsIn PySem.F.slot_dict_get dd.typeIs PySem.F.entry_dict_get (PySem.F.args_dict_get_3 _ _ _) (meetsH_dict_get_default (nestedKind X.prog X.w) a _ x.sys r) ⟨nroom (X := X) hu, _, xs, ti, dd, ?_⟩
        cases hd : dFind kvs (.tuple ds) with
        | none => rw [f2 hd]; rw [hd] at h; exact h v _ _ (I.tok _) rv rd
        | some d => obtain ⟨b, u', v, e, rv, rd⟩ := f1 d hd; rw [e]; rw [hd] at h; exact h v _ _ (I.tok _) rv rd
    | _ => simp [tupKB] at h1
end

/-! ### the rules -/
section
variable {X : Cx} {W : WX} {a b c e f : Expr} {es rest : List Expr} {pos p apos : Pos} {F G I : EV} {T U : ET} {Fs : EA}
theorem hroom (hu : HasRoom X) : X.A.units + 40 < cLine := by
  have h : X.A.units + 100 < cLine := hu
  omega
def rDIx (X : Cx) : R2 := fun x y H Q => ∃ (Z : Hp) (kvs : List (D × D)) (k d : D), Same Z H ∧ RD X.w X.K Z x (.dict kvs) ∧ RD X.w X.K Z y k ∧ okK kvs k = true ∧ dFind kvs k = some d ∧ ∀ v, RD X.w X.K Z v d → Q v H
theorem ix_dict (hu : HasRoom X) : IxR X (rDIx X) := by
  intro value slice pins s σ H x y v u Q I rx ry h hs
  obtain ⟨Z, kvs, k, d, sz, rd, rk, ok, hf, q⟩ := h
  obtain ⟨a, rfl, da⟩ := rd_dict I sz rd
  obtain rfl : v = Value.ref a := rx
  have hT := da.typeIs
  unfold subscriptTail
  refine wpAny_bind ?_
  rw [getitemInPython_of_ne hT.not_modules]
  refine wpAny_bind (wpAny_specialOf hT PySem.F.slot_dict_getitem.lookup ?_)
  have fin : wpAny (model X.prog X.w) X.A (subscripted slice false (.ref a) u) (fun r s₃ => wpAny (model X.prog X.w) X.A (letTemporaryGo value (.ref a) r >>= fun _ => pure r) (EP X pins σ Q) X.xe s₃) X.xe s := by
    rw [hs]
    exact wpAny_operating (dd_item (hroom hu) I sz da rk ok ry hf fun v' w' s' I' rv' rd' => wpAny_bind (wpAny_letTemporaryGo (wpAny_pure ⟨v', H, I', rv', q v' rd'⟩)))
  first
    | exact wpAny_pure (wpAny_bind fin)
    | exact wpAny_bind (wpAny_pure (wpAny_bind fin))
    | exact wpAny_bind fin
/-- a[b] of dicts, too -/
def dIxD : D → D → R D
  | .dict kvs, k => match okK kvs k, dFind kvs k with
    | true, some d => .ok d
    | _, _ => .stuck
  | x, y => dIx x y
theorem cl_ixD (x y : D) : (dIxD x y).clean := by
  unfold dIxD
  split
  · split <;> trivial
  · exact cl_ix _ _
theorem od_ixD : OpD X (fun x y H Q => rIx X.K x y H Q ∨ rDIx X x y H Q) dIxD := by
  intro Z H x y dx dy Q s rx ry h
  unfold dIxD at h
  split at h
  · split at h
    · exact .inr ⟨Z, _, _, _, s, rx, ry, by assumption, by assumption, fun v rv => h v Z H (Ext.refl s) rv⟩
    · exact h.elim
  · exact .inl (od_ix Z H x y _ _ Q s rx ry h)
theorem ev_ixD (hu : HasRoom X) (ha : Ev X W a F) (hb : Ev X W b G) (hs : PlainIx b := by exact fun _ _ => rfl) : Ev X W (.Subscript a b pos) (e2 dIxD F G) := ev_2 (fun p q => pe_ix (ix_seq.or (ix_dict hu)) p q hs) od_ixD cl_ixD ha hb
def rDIn (X : Cx) (neg : Bool) : R2 := fun x y H Q => ∃ (Z : Hp) (kvs : List (D × D)) (k : D), Same Z H ∧ RD X.w X.K Z y (.dict kvs) ∧ RD X.w X.K Z x k ∧ okK kvs k = true ∧ Q (.bl (if neg then !(dFind kvs k).isSome else (dFind kvs k).isSome)) H
theorem op_dIn (hu : HasRoom X) (neg : Bool) : OpR X (compareOp (if neg then .NotIn else .In)) (rDIn X neg) := by
  intro pins s σ H x y v u Q I rx ry h
  obtain ⟨Z, kvs, k, sz, rd, rk, ok, q⟩ := h
  obtain ⟨a, rfl, da⟩ := rd_dict I sz rd
  obtain rfl : u = Value.ref a := ry
  exact dd_in neg (hroom hu) I sz da rk ok rx fun s' I' => ⟨.bl _, H, I', rfl, q⟩
def dInD : D → D → R D
  | k, .dict kvs => guardR (okK kvs k) (.bool (dFind kvs k).isSome)
  | x, y => dIn x y
def dNotInD : D → D → R D
  | k, .dict kvs => guardR (okK kvs k) (.bool (!(dFind kvs k).isSome))
  | x, y => dNotIn x y
theorem cl_inD (x y : D) : (dInD x y).clean := by
  unfold dInD
  split
  · exact clean_guard _ _
  · exact cl_in _ _
theorem cl_notInD (x y : D) : (dNotInD x y).clean := by
  unfold dNotInD
  split
  · exact clean_guard _ _
  · exact cl_notIn _ _
theorem OpR.or {f : Value → Value → Sem Value} {r r' : R2} (h : OpR X f r) (h' : OpR X f r') : OpR X f (fun x y H Q => r x y H Q ∨ r' x y H Q) := by
  intro pins s σ H x y v u Q I rx ry q
  rcases q with q | q
  · exact h pins s σ H x y v u Q I rx ry q
  · exact h' pins s σ H x y v u Q I rx ry q
theorem od_inD : OpD X (fun x y H Q => rInP X.K false x y H Q ∨ rDIn X false x y H Q) dInD := by
  intro Z H x y dx dy Q s rx ry h
  unfold dInD at h
  split at h
  · obtain ⟨ok, h⟩ := h.guard
    exact .inr ⟨Z, _, _, s, ry, rx, ok, h _ Z H (Ext.refl s) (.bl _)⟩
  · exact .inl (od_in Z H x y _ _ Q s rx ry h)
theorem od_notInD : OpD X (fun x y H Q => rInP X.K true x y H Q ∨ rDIn X true x y H Q) dNotInD := by
  intro Z H x y dx dy Q s rx ry h
  unfold dNotInD at h
  split at h
  · obtain ⟨ok, h⟩ := h.guard
    exact .inr ⟨Z, _, _, s, ry, rx, ok, h _ Z H (Ext.refl s) (.bl _)⟩
  · exact .inl (od_notIn Z H x y _ _ Q s rx ry h)
theorem ev_inD (hu : HasRoom X) (ha : Ev X W a F) (hb : Ev X W b G) (hm : behindInMarks .In b = false := by rfl) : Ev X W (.Compare a [.In] [b] pos) (e2 dInD F G) :=
  ev_2 (fun p q => pe_cmpR (OpR.or (op_inP hu) (op_dIn hu false)) p q hm) od_inD cl_inD ha hb
theorem ev_notInD (hu : HasRoom X) (ha : Ev X W a F) (hb : Ev X W b G) (hm : behindInMarks .NotIn b = false := by rfl) : Ev X W (.Compare a [.NotIn] [b] pos) (e2 dNotInD F G) :=
  ev_2 (fun p q => pe_cmpR (OpR.or (op_notInP hu) (op_dIn hu true)) p q hm) od_notInD cl_notInD ha hb
end
end PQ

/-! PQ.24: methods; d.get(k), d.get(k, x) -/
namespace PQ
open PySem PySem.Spec PyProof.Rows L2

/-- the value x is of the type T, without a dict of its own -/
def TyOk (X : Cx) (T : String) (x : V) (H : Hp) : Prop := ∀ (pins : List (Addr × Obj)) (σ : St) (s : Shared) (v : Value), Inv X pins σ H s → RelV x v → s.TypeIs v T ∧ ∀ a, v = .ref a → ∃ ob, s.heap.get? a = some ob ∧ ob.dict = none
def tBMT (X : Cx) (T : String) (r : V → List V → Hp → VK → Prop) (to : TE) (t : TA) : TE := fun σ H Q => to σ H fun x H1 => TyOk X T x H1 ∧ t σ H1 fun xs H2 => r x xs H2 Q
section
variable {X : Cx} {W : WX} {a b c e f o : Expr} {es rest : List Expr} {pos p apos cpos : Pos} {F G I : EV} {T U : ET} {Fs : EA} {to : TE} {t : TA} {name : Str} {Ty id : String} {r : V → List V → Hp → VK → Prop} {Z H : Hp}
theorem pe_bmT (pa : PlainAttrs Ty) (slot : Slot Ty name id) (hty : typeOf (.builtin id) = pure (.type "method_descriptor")) (hm : MtR X id r) (ho : PE X o to) (ha : PA X (e :: es) t)
    (hs : starEach (e :: es) X.env = (false, eval e X.env) :: starEach es X.env) (hplain : (backTo cpos (starEach es X.env)).any (·.1) = false)
    (hbase : attributeBase o name X.env (eval o X.env) = eval o X.env)
    (hfew : ((backTo cpos (starEach (e :: es) X.env)).all (fun x => !x.1) && (backToKw cpos (keywordEach [] X.env)).all (fun x => x.1.isSome)
      && decide ((e :: es).length + ([] : List Keyword).length + (if ([] : List Keyword).isEmpty then 0 else 1) < 30)) = true)
    (hline : (apos.endLine == cpos.line) = true) :
    PE X (.Call (.Attribute o name apos) (e :: es) [] cpos) (tBMT X Ty r to t) := by
  refine ⟨fun pins s σ H Q I h => ?_⟩
  refine wpAny_Call_method_late hbase hfew hline rfl (thn (ho.run pins s σ H _ I h) fun v s1 ⟨x, H1, I1, r1, ty, q1⟩ => ?_)
  obtain ⟨h1, h2⟩ := ty pins σ s1 v I1 r1
  refine ⟨Ty, id, pa, slot, hty, h1, h2, ?_⟩
  have hA := ha.run cpos pins s1 σ H1 _ I1 q1
  rw [hs] at hA ⊢
  refine Calls.callWith_builtin (by show (false || (backTo cpos (starEach es X.env)).any (·.1)) = false; rw [hplain] <;> rfl) (Calls.evalArgs_plain ?_)
  exact thn hA fun us s2 ⟨vs, H2, I2, r2, q2⟩ => hm pins s2 σ H2 x vs v us Q I2 r1 r2 q2
theorem rd_tyOk (sz : Same Z H) {v : V} {d : D} (h : RD X.w X.K Z v d) (ht : tyName d = "str" ∨ tyName d = "dict" ∨ tyName d = "list") : TyOk X (tyName d) v H := by
  intro pins σ s u I r
  cases h with
  | str x =>
    obtain ⟨t, rfl⟩ := (show ∃ t, u = Value.str x t from r)
    exact ⟨typeIs_str s x t, fun _ e => nomatch e⟩
  | dct h1 h2 h3 h4 h5 h6 h7 =>
    obtain ⟨a, e, da⟩ := rd_dict I sz (.dct h1 h2 h3 h4 h5 h6 h7)
    cases e
    obtain rfl : u = Value.ref _ := r
    exact ⟨da.typeIs, da.noDict⟩
  | lst h1 r1 =>
    obtain rfl : u = Value.ref _ := r
    obtain ⟨its, _, pl, _⟩ := I.list (.inl (.inl (sz _ _ h1)))
    refine ⟨pl.isList.typeIs, fun a e => ?_⟩
    cases e
    obtain ⟨o, n, e, c, hd, _⟩ := pl
    exact ⟨o, e, hd⟩
  | _ => simp [tyName] at ht
/-- what a method computes -/
def MeD (X : Cx) (Ty : String) (r : V → List V → Hp → VK → Prop) (f : D → List D → R D) : Prop := ∀ (Z H : Hp) (x : V) (d : D) (xs : List V) (ds : List D) (Q : VK), Same Z H → RD X.w X.K Z x d → RDs X.w X.K Z xs ds → tyName d = Ty → Post0 (f d ds) (QV X Z H Q) → r x xs H Q
def eM (Ty : String) (f : D → List D → R D) (F : EV) (Fs : EA) : EV := fun ρ => F ρ >>= fun d => if tyName d = Ty then Fs ρ >>= fun ds => f d ds else .stuck
theorem ev_M {f : D → List D → R D} (pa : PlainAttrs Ty) (slot : Slot Ty name id) (hty : typeOf (.builtin id) = pure (.type "method_descriptor")) (hm : MtR X id r) (ht : Ty = "str" ∨ Ty = "dict" ∨ Ty = "list") (hf : MeD X Ty r f) (cl : ∀ d ds, (f d ds).clean)
    (ho : Ev X W o F) (ha : Ea X W (e :: es) Fs) (hbase : attributeBase o name X.env (eval o X.env) = eval o X.env := by rfl)
    (hfew : ((backTo cpos (starEach (e :: es) X.env)).all (fun x => !x.1) && (backToKw cpos (keywordEach [] X.env)).all (fun x => x.1.isSome)
      && decide ((e :: es).length + ([] : List Keyword).length + (if ([] : List Keyword).isEmpty then 0 else 1) < 30)) = true := by rfl)
    (hline : (apos.endLine == cpos.line) = true := by rfl) : Ev X W (.Call (.Attribute o name apos) (e :: es) [] cpos) (eM Ty f F Fs) := by
  refine ⟨fun {Z0 H0 Z H σ ρ Q} r0 q => toAt (pe_bmT pa slot hty hm pe_at pa_at (ha.se _ _ rfl) (ha.plt _ _ rfl _) hbase hfew hline) ?_⟩
  refine ho.go r0 (q.bind.mono fun d q v Z1 H1 x1 r1 => ?_)
  by_cases hd : tyName d = Ty
  · rw [if_pos hd] at q
    refine ⟨hd ▸ rd_tyOk x1.zh r1 (hd.symm ▸ ht), ?_⟩
    refine ha.go (r0.step x1) ((q.bind.step x1).mono fun ds q vs Z2 H2 x2 r2 => ?_)
    refine hf Z2 H2 v d vs ds Q x2.zh (r1.mono x2.zz) r2 hd ?_
    have p := q.to0 (cl d ds)
    cases hfd : f d ds with
    | ok z => rw [hfd] at p; exact fun v3 Z3 H3 x3 r3 => p v3 Z3 H3 ((x1.trans x2).trans x3) r3
    | exc z => rw [hfd] at p; exact p.elim
    | stuck => rw [hfd] at p; exact p.elim
  · rw [if_neg hd] at q
    exact q.elim

/-! ### d.get(k), d.get(k, x) -/
def rDGetM (X : Cx) : V → List V → Hp → VK → Prop := fun x xs H Q => ∃ (Z : Hp) (kvs : List (D × D)) (k : D) (y : V), Same Z H ∧ RD X.w X.K Z x (.dict kvs) ∧ RD X.w X.K Z y k ∧ okK kvs k = true ∧
  ((xs = [y] ∧ ∀ v, RD X.w X.K Z v ((dFind kvs k).getD .none) → Q v H) ∨ ∃ z d, xs = [y, z] ∧ RD X.w X.K Z z d ∧ ∀ v, RD X.w X.K Z v ((dFind kvs k).getD d) → Q v H)
theorem mt_dget (hu : HasRoom X) : MtR X "dict.get" (rDGetM X) := by
  intro pins s σ H x xs v us Q I rx rs h
  obtain ⟨Z, kvs, k, y, sz, rd, rk, ok, h⟩ := h
  obtain ⟨a, rfl, da⟩ := rd_dict I sz rd
  obtain rfl : v = Value.ref a := rx
  rcases h with ⟨rfl, q⟩ | ⟨z, d, rfl, rz, q⟩
  · cases rs with
    | cons r1 rr =>
      cases rr
      exact dd_get (more := []) (hroom hu) I sz da rk ok r1 (.inl rfl) fun v' w' s' I' rv rd' => ⟨v', H, I', rv, q _ rd'⟩
  · cases rs with
    | cons r1 rr =>
      cases rr with
      | cons r2 rr =>
        cases rr
        exact dd_get (more := [(_, z, d)]) (hroom hu) I sz da rk ok r1 (.inr ⟨_, _, _, rfl, r2, rz⟩) fun v' w' s' I' rv rd' => ⟨v', H, I', rv, q _ rd'⟩
def dGetM : D → List D → R D
  | .dict kvs, [k] => guardR (okK kvs k) ((dFind kvs k).getD .none)
  | .dict kvs, [k, d] => guardR (okK kvs k) ((dFind kvs k).getD d)
  | _, _ => .stuck
theorem cl_getM (d : D) (ds : List D) : (dGetM d ds).clean := by
  unfold dGetM
  split <;> first | exact clean_guard _ _ | trivial
theorem me_get : MeD X "dict" (rDGetM X) dGetM := by
  intro Z H x d xs ds Q sz rd rs _ h
  unfold dGetM at h
  split at h
  · obtain ⟨ok, h⟩ := h.guard
    obtain ⟨y, rfl, ry⟩ := rds1 rs
    exact ⟨Z, _, _, y, sz, rd, ry, ok, .inl ⟨rfl, fun v rv => h v Z H (Ext.refl sz) rv⟩⟩
  · obtain ⟨ok, h⟩ := h.guard
    cases rs with
    | cons ry rr =>
      obtain ⟨z, rfl, rz⟩ := rds1 rr
      exact ⟨Z, _, _, _, sz, rd, ry, ok, .inr ⟨z, _, rfl, rz, fun v rv => h v Z H (Ext.refl sz) rv⟩⟩
  · exact h.elim
theorem ev_get (hu : HasRoom X) (ho : Ev X W o F) (ha : Ea X W (e :: es) Fs) (hbase : attributeBase o "get" X.env (eval o X.env) = eval o X.env := by rfl)
    (hfew : ((backTo cpos (starEach (e :: es) X.env)).all (fun x => !x.1) && (backToKw cpos (keywordEach [] X.env)).all (fun x => x.1.isSome)
      && decide ((e :: es).length + ([] : List Keyword).length + (if ([] : List Keyword).isEmpty then 0 else 1) < 30)) = true := by rfl)
    (hline : (apos.endLine == cpos.line) = true := by rfl) : Ev X W (.Call (.Attribute o "get" apos) (e :: es) [] cpos) (eM "dict" dGetM F Fs) :=
  ev_M PySem.F.plainAttrs_dict PySem.F.slot_dict_get PySem.F.type_dict_get (mt_dget hu) (.inr (.inl rfl)) me_get cl_getM ho ha hbase hfew hline
end
end PQ

/-! PQ.25: own dicts: {}, x[k] = v -/
namespace PQ
open PySem PySem.Spec PyProof.Rows L2

section
variable {w : World} {K : PySem.W.Frag} {Z : Hp} {P : Program}
theorem FlatR.snoc : ∀ {kvs : List (D × D)} {vs : List (Key × Value)} {p : D × D} {q : Key × Value}, FlatR w K Z kvs vs → (flatKey p.1 = some q.1 ∧ ∃ v, RelV v q.2 ∧ RD w K Z v p.2) → FlatR w K Z (kvs ++ [p]) (vs ++ [q])
  | _, _, _, _, .nil, h => .cons h .nil
  | _, _, _, _, .cons a t, h => .cons a (FlatR.snoc t h)
theorem FlatR.anyK {k : D} {kk : Key} (hk : flatKey k = some kk) : ∀ {kvs : List (D × D)} {vs : List (Key × Value)}, FlatR w K Z kvs vs → (kvs.any fun p => sameK p.1 k) = (vs.any fun q => decide (q.1 = kk))
  | _, _, .nil => rfl
  | _, _, .cons h t => by rw [List.any_cons, List.any_cons, FlatR.anyK hk t, flat_same h.1 hk]
theorem FlatR.repl {k d : D} {kk : Key} {r : Value} {v : V} (hk : flatKey k = some kk) (rv : RelV v r) (rd : RD w K Z v d) : ∀ {kvs : List (D × D)} {vs : List (Key × Value)}, FlatR w K Z kvs vs →
    FlatR w K Z (kvs.map fun p => if sameK p.1 k then (p.1, d) else p) (vs.map fun q => if q.1 = kk then (q.1, r) else q)
  | _, _, .nil => .nil
  | _, _, .cons (a := p) (b := q) h t => by
    rw [List.map_cons, List.map_cons]
    refine .cons ?_ (FlatR.repl hk rv rd t)
    rw [flat_same h.1 hk]
    by_cases e : q.1 = kk
    · simp only [e, decide_true, if_true]
      exact ⟨by rw [h.1, e], v, rv, rd⟩
    · simp only [e, decide_false, if_false]
      exact h
theorem FlatR.put {k d : D} {kk : Key} {r : Value} {v : V} (hk : flatKey k = some kk) (rv : RelV v r) (rd : RD w K Z v d) {kvs : List (D × D)} {vs : List (Key × Value)} (h : FlatR w K Z kvs vs) : FlatR w K Z (dPutL kvs k d) (stored vs kk r) := by
  unfold dPutL stored
  rw [h.anyK hk]
  split
  · exact h.repl hk rv rd
  · exact h.snoc ⟨hk, v, rv, rd⟩
theorem keyIs_rel {k : Key} {u : Value} (h : (mixKind P w).is k u = true) : RelV (kV k) u := by
  rcases keyIs_shape (show keyIs k u = true from h) with ⟨i, t, rfl, rfl⟩ | ⟨x, t, rfl, rfl⟩
  · exact ⟨t, rfl⟩
  · exact ⟨t, rfl⟩
theorem flatKey_rd {d : D} {k : Key} (h : flatKey d = some k) : RD w K Z (kV k) d := by
  cases d <;> simp [flatKey] at h <;> subst h
  · exact .int _
  · exact .str _
theorem flat_back : ∀ {l : List DictEntry} {kvs : List (D × D)} {vs : List (Key × Value)}, Pairs (mixKind P w) l vs → (∀ e ∈ l, ∃ k, (mixKind P w).is k e.key = true ∧ e.hash = (mixKind P w).hash k) → FlatR w K Z kvs vs → RDE w K Z l kvs
  | _, _, _, .nil, _, r => by cases r; exact .nil
  | _, _, _, .cons (e := e) (kv := kv) h1 h2 t, hh, r => by
    cases r with
    | @cons p _ _ _ hr rr =>
      obtain ⟨hk, v, rv, rd⟩ := hr
      obtain ⟨k', hi, ha⟩ := hh e List.mem_cons_self
      have ek : k' = kv.1 := (mixKind P w).inj _ _ _ hi h1
      subst ek
      have hash : e.hash = (nkOf kv.1).hash w := by rw [ha]; cases kv.1 <;> rfl
      obtain ⟨kd, vd⟩ := p
      exact .cons (flat_keyD hk) hash (keyIs_rel h1) (by rw [h2]; exact rv) (flatKey_rd hk) rd (flat_back t (fun e' he => hh e' (List.mem_cons_of_mem _ he)) rr)
theorem FlatR.nodupK {kvs : List (D × D)} {vs : List (Key × Value)} (r : FlatR w K Z kvs vs) (h : (vs.map (·.1)).Nodup) : nodupK kvs := by
  unfold PQ.nodupK
  rw [r.keys]
  refine List.pairwise_map.mpr (h.imp fun hab e => hab ?_)
  exact nkOf_inj.mp (Option.some.inj e)
theorem DictAt.ofFlat {h : Heap} {a : Addr} {kvs : List (D × D)} {vs : List (Key × Value)} (sys : (a == sysModules) = false) (len : kvs.length ≤ sizeLine) (dd : h.DictOf (mixKind P w) a vs) (r : FlatR w K Z kvs vs) : DictAt w K Z h a kvs := by
  obtain ⟨o, es, ep, h1, h2, h3, h4, h5, h6⟩ := dd
  exact ⟨⟨o, es, ep, h1, h2, h3, flat_back (P := P) h5 (fun e he => h4 e (by simpa using he)) r⟩, sys, len, r.nodupK h6⟩
/-! tuples -/
theorem TupR.snoc : ∀ {kvs : List (D × D)} {vs : List (NestedKey × Addr × Value)} {p : D × D} {q : NestedKey × Addr × Value}, TupR w K Z kvs vs → ((keyD p.1 = some q.1 ∧ RD w K Z (.ref q.2.1) p.1) ∧ ∃ v, RelV v q.2.2 ∧ RD w K Z v p.2) → TupR w K Z (kvs ++ [p]) (vs ++ [q])
  | _, _, _, _, .nil, h => .cons h .nil
  | _, _, _, _, .cons a t, h => .cons a (TupR.snoc t h)
theorem TupR.anyK {k : D} {kk : NestedKey} (hk : keyD k = some kk) : ∀ {kvs : List (D × D)} {vs : List (NestedKey × Addr × Value)}, TupR w K Z kvs vs → (kvs.any fun p => sameK p.1 k) = (atKey vs kk).isSome
  | _, _, .nil => rfl
  | _, _, .cons (a := p) (b := q) h t => by
    rw [List.any_cons, TupR.anyK hk t, keyD_same h.1.1 hk]
    unfold atKey
    rw [List.find?_cons]
    by_cases e : q.1 = kk
    · simp [e]
    · simp [e]
theorem TupR.repl {k d : D} {kk : NestedKey} {r : Value} {v : V} (hk : keyD k = some kk) (rv : RelV v r) (rd : RD w K Z v d) : ∀ {kvs : List (D × D)} {vs : List (NestedKey × Addr × Value)}, TupR w K Z kvs vs →
    TupR w K Z (kvs.map fun p => if sameK p.1 k then (p.1, d) else p) (vs.map (putAt kk r))
  | _, _, .nil => .nil
  | _, _, .cons (a := p) (b := q) h t => by
    rw [List.map_cons, List.map_cons]
    refine .cons ?_ (TupR.repl hk rv rd t)
    rw [keyD_same h.1.1 hk]
    unfold putAt
    by_cases e : q.1 = kk
    · simp only [e, decide_true, if_true]
      exact ⟨⟨by rw [h.1.1, e], h.1.2⟩, v, rv, rd⟩
    · simp only [e, decide_false, if_false]
      exact h
theorem TupR.put {k d : D} {kk : NestedKey} {b : Addr} {r : Value} {v : V} (hk : keyD k = some kk) (rk : RD w K Z (.ref b) k) (rv : RelV v r) (rd : RD w K Z v d) {kvs : List (D × D)} {vs : List (NestedKey × Addr × Value)} (h : TupR w K Z kvs vs) : TupR w K Z (dPutL kvs k d) (storedH vs kk b r) := by
  unfold dPutL storedH
  rw [h.anyK hk]
  split
  · exact h.repl hk rv rd
  · exact h.snoc ⟨⟨hk, rk⟩, v, rv, rd⟩
theorem tup_back : ∀ {kvs : List (D × D)} {xs : List (NestedKey × Addr × Value)}, TupR w K Z kvs xs → RDE w K Z (xs.map (entryOfKey (nestedKind P w))) kvs
  | _, _, .nil => .nil
  | _, _, .cons (a := p) (b := q) h t => by
    obtain ⟨⟨h1, h2⟩, v, rv, rd⟩ := h
    obtain ⟨kd, vd⟩ := p
    rw [List.map_cons]
    exact .cons (kv := .ref q.2.1) h1 rfl rfl rv h2 rd (tup_back t)
theorem TupR.nodupK {kvs : List (D × D)} {vs : List (NestedKey × Addr × Value)} (r : TupR w K Z kvs vs) (h : (vs.map (·.1)).Nodup) : nodupK kvs := by
  unfold PQ.nodupK
  rw [r.keys]
  exact List.pairwise_map.mpr (h.imp fun hab e => hab (Option.some.inj e))
theorem DictAt.ofTup {h : Heap} {a : Addr} {kvs : List (D × D)} {xs : List (NestedKey × Addr × Value)} (sys : (a == sysModules) = false) (len : kvs.length ≤ sizeLine) (dd : h.DictOfH (nestedKind P w) a xs) (r : TupR w K Z kvs xs) : DictAt w K Z h a kvs := by
  obtain ⟨o, es, ep, h1, h2, h3, h4, h5, h6⟩ := dd
  exact ⟨⟨o, es, ep, h1, h2, h3, by rw [h4]; exact tup_back r⟩, sys, len, r.nodupK h6⟩
theorem length_dPutL (kvs : List (D × D)) (k d : D) : (dPutL kvs k d).length ≤ kvs.length + 1 := by
  unfold dPutL
  split <;> simp
theorem okK_put {kvs : List (D × D)} {k d : D} (h : okK kvs k = true) : ∀ k', okK (dPutL kvs k d) k' = okK kvs k' ∨ True := fun _ => .inr trivial
end

section
variable {X : Cx} {pins : List (Addr × Obj)} {σ : St} {H Z : Hp} {s : Shared} {A : Around} {E : Value → Shared → Prop}
/-- d[k] = v -/
theorem dd_set {a : Addr} {kvs : List (D × D)} {y v : V} {k d : D} {u r : Value} {Q : Unit → Shared → Prop} (hu : A.units + 40 < cLine) (I : Inv X pins σ H s) (sz : Same Z H) (x : DictAt X.w X.K Z s.heap a kvs) (hk : RD X.w X.K Z y k) (ok : okK kvs k = true) (ru : RelV y u)
    (rv : RelV v r) (rd : RD X.w X.K Z v d) (hl : kvs.length < sizeLine)
    (h : ∀ h' t, DictAt X.w X.K Z h' a (dPutL kvs k d) → Heap.SameBut a s.heap h' → Q () { s with heap := h', toks := t }) : wpAny (model X.prog X.w) A (setItem (.ref a) u r) Q E s := by
  have hl' : (dPutL kvs k d).length ≤ sizeLine := by have := length_dPutL kvs k d; omega
  rcases okK_split ok with ⟨⟨kk, h1⟩, h2⟩ | ⟨h1, h2⟩
  · obtain ⟨vs, dd, rel⟩ := x.flat (P := X.prog) h2
    have hz : vs.length ≤ sizeLine := by rw [← Paired.length rel]; exact x.len
    exact wpAny_setItem_pairs (hsz := hz) (flat_val hk ru h1) dd fun h' dd' hs => h h' _ (.ofFlat x.sys hl' dd' (rel.put h1 rv rd)) hs
  · obtain ⟨xs, dd, rel⟩ := x.tup I sz h2
    obtain ⟨ks, hk1, _⟩ := tupKB_key h1
    have hz : xs.length ≤ sizeLine := by rw [← Paired.length rel]; exact x.len
    cases hk with
    | tup hh rs =>
      cases (show u = Value.ref _ from ru)
      exact wpAny_setItem_heap (hsz := hz) (nroom (X := X) hu) (tup_is I sz (.tup hh rs) hk1 h1) dd fun h' dd' hs => h h' _ (.ofTup x.sys hl' dd' (rel.put hk1 (.tup hh rs) rv rd)) hs
    | _ => simp [tupKB] at h1
theorem DictAt.obj {w : World} {K : PySem.W.Frag} {h : Heap} {a : Addr} {kvs : List (D × D)} (x : DictAt w K Z h a kvs) : ∃ o, h.get? a = some o := by
  obtain ⟨o, _, _, h1, _⟩ := x.at'
  exact ⟨o, h1⟩
theorem DictAt.own {w : World} {K : PySem.W.Frag} {h : Heap} {a : Addr} {kvs : List (D × D)} {o : Obj} (x : DictAt w K Z h a kvs) (ho : h.get? a = some o) (hz : Z a = none) {H : Hp} (hH : H a = some (rawH a o)) : Own w K Z H a (.dict kvs) := by
  obtain ⟨o', es, ep, h1, h2, h3, h4⟩ := x.at'
  rw [ho] at h1
  cases h1
  exact .dct hz hH x.sys h2 h3 x.len x.nd h4
theorem Own.dat (I : Inv X pins σ H s) {a : Addr} {kvs : List (D × D)} (h : Own X.w X.K Z H a (.dict kvs)) : DictAt X.w X.K Z s.heap a kvs := by
  cases h with
  | dct h0 h1 h2 h3 h4 h5 h6 h7 => exact ⟨⟨_, _, _, raw_get I h1, h3, h4, h7⟩, h2, h5, h6⟩
theorem inv_raw {h' : Heap} {t' : Nat} {a : Addr} {o o' : Obj} (I : Inv X pins σ H s) (hH : H a = some (rawH a o)) (hs : Heap.SameBut a s.heap h') (he : h'.get? a = some o') :
    Inv X pins σ (upd H a (rawH a o')) { s with heap := h', toks := t' } :=
  I.write (x := a) (e := a) (by rw [hH]; trivial) (.inl rfl) (fun b q hb z => (hs.2 b hb).trans z) ⟨_, he⟩ ⟨he, ⟨_, he⟩, fun _ _ q k => k _ q⟩
/-- o[i] = v, o a dict of one's own -/
def rSetDD (X : Cx) : TSet := fun o i v H Q => ∃ (Z : Hp) (a : Addr) (kvs : List (D × D)) (k d : D), Same Z H ∧ o = .ref a ∧ Own X.w X.K Z H a (.dict kvs) ∧ RD X.w X.K Z i k ∧ RD X.w X.K Z v d ∧ okK kvs k = true ∧ kvs.length < sizeLine ∧
  ∀ o', Own X.w X.K Z (upd H a (rawH a o')) a (.dict (dPutL kvs k d)) → Q (upd H a (rawH a o'))
theorem set_dictD (hu : HasRoom X) : PSet X (rSetDD X) := by
  intro pins s σ H o i v ov iv u Q I ro ri rv h
  obtain ⟨Z, a, kvs, k, d, sz, rfl, ow, rk, rd, ok, hl, q⟩ := h
  cases (show ov = Value.ref a from ro)
  refine dd_set (hroom hu) I sz (ow.dat I) rk ok ri rv rd hl fun h' t x hs => ?_
  obtain ⟨o', ho'⟩ := x.obj
  cases ow with
  | dct h0 h1 h2 h3 h4 h5 h6 h7 =>
    exact ⟨_, inv_raw I h1 hs ho', q o' (x.own ho' h0 upd_same)⟩
end

section
variable {X : Cx} {W : WX} {Z0 H0 Z H : Hp} {σ : St} {ρ : Rho}
variable {st : Stmt} {sts : List Stmt} {e a b c ie tg : Expr} {pos p p1 p2 : Pos} {F G : EV} {T : ET} {S S' : ES} {es : List Expr} {Fs : EA}
def slDct : Option Sl → R (List (D × D))
  | some (.o (.dict kvs)) => .ok kvs
  | _ => .stuck
/-- x[k] = v, x a dict -/
def sSetD (i : Nat) (F G : EV) : ES := fun ρ => Out.of (F ρ) ρ fun d => Out.of (slDct ρ[i]?) ρ fun kvs => Out.of (G ρ) ρ fun k => Out.of (guardR (okK kvs k && fits (kvs.length + 1)) kvs) ρ fun _ => .nx (ρ.set i (.o (.dict (dPutL kvs k d))))
theorem es_setD (hu : HasRoom X) (i : Nat) {x : Str} (h : Ev X W e F) (hg : Ev X W ie G) (hi : X.N[i]? = some x := by rfl) (hv : Vis X.env.scope x := by first | exact Or.inl rfl | exact Or.inr (Or.inl rfl) | exact Or.inr (Or.inr rfl)) (hd : (x == ("__debug__" : Str)) = false := by decide)
    (hcd : (x == ("__classdict__" : Str)) = false := by decide)
    (ha : ∀ v, assign (.Subscript (.Name x p1) ie p2) X.env v = (do
      let ov ← holding [v] (eval (.Name x p1) X.env)
      let iv ← holding [v, ov] (eval ie X.env)
      standAt p2
      holding [v, ov, iv] (setItem ov iv v)
      release [v, ov, iv] []) := by intro _; rfl)
    (hs : swapsWithSole [.Subscript (.Name x p1) ie p2] e pos.line X.env = pure false := by rfl) (hw : swappedStores [.Subscript (.Name x p1) ie p2] e X.env = pure none := by rfl)
    (h1 : (assignEach [.Subscript (.Name x p1) ie p2] X.env).map (·.2) = [assign (.Subscript (.Name x p1) ie p2) X.env] := by rfl) : Es X W (.Assign [.Subscript (.Name x p1) ie p2] e pos) (sSetD i F G) := by
  refine ⟨fun {Z0 H0 Z H σ ρ En} r q => toAtS (ps_asg pe_at (pg_sub (pe_var hi hv hd hcd) pe_at (set_dictD hu) ha) hs hw h1) ?_⟩
  refine h.go r ((q.post r).mono fun d q v Z1 H1 x1 r1 => ?_)
  cases hr : ρ[i]? with
  | none => rw [hr] at q; exact q.elim
  | some s =>
    rw [hr] at q
    cases s with
    | o dd =>
      cases dd with
      | dict kvs =>
        have q : SPost X W Z0 H0 Z (Out.of (G ρ) ρ fun k => Out.of (guardR (okK kvs k && fits (kvs.length + 1)) kvs) ρ fun _ => .nx (ρ.set i (.o (.dict (dPutL kvs k d))))) En := q
        obtain ⟨l, hl, ho, h0⟩ := r.getO hr
        refine ⟨_, hl, ?_⟩
        refine hg.go (r.step x1) (((q.post r).step x1).mono fun k q u Z2 H2 x2 r2 => ?_)
        cases hok : okK kvs k && fits (kvs.length + 1) with
        | false => unfold guardR at q; rw [hok] at q; exact q.elim
        | true =>
          rw [guardR_of hok] at q
          rw [Bool.and_eq_true] at hok
          have x12 := x1.trans x2
          have ow := ho.ext x12
          have hfl := fits_le hok.2
          refine ⟨Z2, l, kvs, k, d, x12.zh, rfl, ow, r2, r1.mono x2.zz, hok.1, by omega, fun o' ow' => ?_⟩
          exact q _ _ _ (Rep.mutate (r.step x12) hr hl h0 ow.zno ow') x12.zz
      | _ => exact q.elim
    | _ => exact q.elim
/-- {} -/
def eDict0 : EV := fun _ => .ok (.dict [])
theorem eo_dict0 : Eo X W (.Dict [] [] pos) eDict0 := by
  refine ⟨fun {Z0 H0 Z H σ ρ Q} r q pins s I => ?_⟩
  have q : ∀ a Z' H', Ext Z H Z' H' → H a = none → Own X.w X.K Z' H' a (.dict []) → Q (.ref a) H' := q
  have hn := I.hok.fresh (Nat.le_refl s.heap.objs.size)
  have hg : (s.heap.push { cls := .type "dict", data := .dict #[] }).get? s.heap.objs.size = some { cls := .type "dict", data := .dict #[] } := Heap.get?_push_size _ rfl
  refine wpAny_Dict_empty ⟨.ref s.heap.objs.size, upd H s.heap.objs.size (rawH s.heap.objs.size { cls := .type "dict", data := .dict #[] }),
    I.laid (a := s.heap.objs.size) (t' := s.toks) (fun _ _ q => Heap.get?_push_of_some _ q) (Nat.le_refl _) ⟨hg, ⟨_, hg⟩, fun _ _ q k => k _ q⟩, rfl, ?_⟩
  refine q _ Z _ (Ext.newO r.zh hn) hn (.dct (zfree r.zh hn) upd_same ?_ ⟨rfl, rfl, rfl⟩ rfl (Nat.zero_le _) List.nodup_nil .nil)
  exact beq_eq_false_iff_ne.mpr (Ne.symm (Nat.ne_of_lt I.big))
end
end PQ

/-! PQ.26: x.join(y), x.split(y) -/
namespace PQ
open PySem PySem.Spec PyProof.Rows L2

def strsOf : List D → Option (List Str)
  | [] => some []
  | .str x :: ds => (strsOf ds).map (x :: ·)
  | _ :: _ => none
def joinOk (a : Str) (ys : List Str) : Bool := decide ((ys.map (·.length)).sum + ys.length * a.length ≤ 16777216)
def joinD (a : Str) (ds : List D) : R D := match strsOf ds with
  | some ys => guardR (joinOk a ys) (.str (Txt.join a ys))
  | none => .stuck
def dJoin : D → List D → R D
  | .str a, [.list ds] => joinD a ds
  | .str a, [.tuple ds] => joinD a ds
  | _, _ => .stuck
theorem cl_joinD (a : Str) (ds : List D) : (joinD a ds).clean := by
  unfold joinD
  split
  · exact clean_guard _ _
  · trivial
theorem cl_join (d : D) (ds : List D) : (dJoin d ds).clean := by
  unfold dJoin
  split <;> first | exact cl_joinD _ _ | trivial
theorem strsOf_rds {w : World} {K : PySem.W.Frag} {Z : Hp} : ∀ {xs : List V} {ds : List D} {ys : List Str}, RDs w K Z xs ds → strsOf ds = some ys → xs = ys.map V.str
  | _, _, _, .nil, h => by simp [strsOf] at h; subst h; rfl
  | _, _, _, .cons r t, h => by
    cases r <;> simp [strsOf] at h
    obtain ⟨zs, h1, rfl⟩ := h
    rw [List.map_cons, strsOf_rds t h1]
section
variable {X : Cx} {W : WX} {a b c e f o : Expr} {es rest : List Expr} {pos p apos cpos : Pos} {F G I : EV} {T U : ET} {Fs : EA}
abbrev rJoinT (X : Cx) : V → List V → Hp → VK → Prop := fun x xs H Q => ∃ a p, ∃ ys : List Str, x = .str a ∧ xs = [.ref p] ∧ (SqL X.K H p (ys.map V.str) ∨ SqT X.K H p (ys.map V.str)) ∧
    (ys.map (·.length)).sum + ys.length * a.length ≤ 16777216 ∧ Q (.str (Txt.join a ys)) H
theorem me_join : MeD X "str" (rJoinT X) dJoin := by
  intro Z H x d xs ds Q sz rd rs _ h
  unfold dJoin at h
  split at h
  · cases rd
    obtain ⟨v, rfl, r0⟩ := rds1 rs
    unfold joinD at h
    split at h
    · rename_i ys hy
      obtain ⟨hc, h⟩ := h.guard
      cases r0 with
      | lst h1 r1 =>
        have e := strsOf_rds r1 hy
        subst e
        exact ⟨_, _, ys, rfl, rfl, .inl (.inl (.inl (sz _ _ h1))), of_decide_eq_true hc, h _ _ _ (Ext.refl sz) (.str _)⟩
    · exact h.elim
  · cases rd
    obtain ⟨v, rfl, r0⟩ := rds1 rs
    unfold joinD at h
    split at h
    · rename_i ys hy
      obtain ⟨hc, h⟩ := h.guard
      cases r0 with
      | tup h1 r1 =>
        have e := strsOf_rds r1 hy
        subst e
        exact ⟨_, _, ys, rfl, rfl, .inr (SqT.mono sz h1), of_decide_eq_true hc, h _ _ _ (Ext.refl sz) (.str _)⟩
    · exact h.elim
  · exact h.elim
theorem ev_join (ho : Ev X W o F) (ha : Ea X W (e :: es) Fs) (hbase : attributeBase o "join" X.env (eval o X.env) = eval o X.env := by rfl)
    (hfew : ((backTo cpos (starEach (e :: es) X.env)).all (fun x => !x.1) && (backToKw cpos (keywordEach [] X.env)).all (fun x => x.1.isSome)
      && decide ((e :: es).length + ([] : List Keyword).length + (if ([] : List Keyword).isEmpty then 0 else 1) < 30)) = true := by rfl)
    (hline : (apos.endLine == cpos.line) = true := by rfl) : Ev X W (.Call (.Attribute o "join" apos) (e :: es) [] cpos) (eM "str" dJoin F Fs) :=
  ev_M PySem.F.plainAttrs_str PySem.F.slot_str_join PySem.F.type_str_join mt_join (.inl rfl) me_join cl_join ho ha hbase hfew hline
end
end PQ

/-! PQ.27: dict displays -/
namespace PQ
open PySem PySem.Spec PyProof.Rows L2

/-- the pairs of a display -/
def evPs : List (EV × EV) → Rho → R (List (D × D))
  | [], _ => .ok []
  | (F, G) :: r, ρ => F ρ >>= fun k => G ρ >>= fun v => evPs r ρ >>= fun ps => .ok ((k, v) :: ps)
def mkDict (ps : List (D × D)) : List (D × D) := ps.foldl (fun acc p => dPutL acc p.1 p.2) []
def eDisp (Fps : List (EV × EV)) : EV := fun ρ => evPs Fps ρ >>= fun ps => guardR (okKs (ps.map (·.1))) (.dict (mkDict ps))
inductive EdL (X : Cx) (W : WX) : List (Option Expr) → List Expr → List (EV × EV) → Prop
  | nil : EdL X W [] [] []
  | cons {k v : Expr} {F G : EV} {ks : List (Option Expr)} {vs : List Expr} {r : List (EV × EV)} : Ev X W k F → Ev X W v G → EdL X W ks vs r → EdL X W (some k :: ks) (v :: vs) ((F, G) :: r)
inductive RDP (w : World) (K : PySem.W.Frag) (Z : Hp) : List (V × V) → List (D × D) → Prop
  | nil : RDP w K Z [] []
  | cons {p : V × V} {q : D × D} {ps : List (V × V)} {qs : List (D × D)} : RD w K Z p.1 q.1 → RD w K Z p.2 q.2 → RDP w K Z ps qs → RDP w K Z (p :: ps) (q :: qs)
theorem RDP.mono {w : World} {K : PySem.W.Frag} {Z Z' : Hp} (s : Same Z Z') : ∀ {ps : List (V × V)} {qs : List (D × D)}, RDP w K Z ps qs → RDP w K Z' ps qs
  | _, _, .nil => .nil
  | _, _, .cons a b t => .cons (a.mono s) (b.mono s) (RDP.mono s t)
theorem RDP.length {w : World} {K : PySem.W.Frag} {Z : Hp} : ∀ {ps : List (V × V)} {qs : List (D × D)}, RDP w K Z ps qs → ps.length = qs.length
  | _, _, .nil => rfl
  | _, _, .cons _ _ t => congrArg (· + 1) (RDP.length t)
section
variable {X : Cx} {W : WX} {pos : Pos}
theorem edl_pps : ∀ {ks : List (Option Expr)} {vs : List Expr} {Fps : List (EV × EV)}, EdL X W ks vs Fps → ∃ trs, PPs X pos ks vs trs ∧ ∀ {Z0 H0 Z H : Hp} {σ : St} {ρ : Rho} {Q : List (V × V) → Hp → Prop}, Rep X.w X.K Z0 H0 Z H σ ρ →
    Post X W Z H σ (evPs Fps ρ) (fun qs => ∀ ps Z' H', Ext Z H Z' H' → RDP X.w X.K Z' ps qs → Q ps H') → tPairs trs σ H Q
  | _, _, _, .nil => ⟨[], pps_nil, fun r q => q _ _ _ (Ext.refl r.zh) .nil⟩
  | _, _, _, .cons hk hv t => by
    obtain ⟨trs, h1, h2⟩ := edl_pps t
    refine ⟨_, pps_cons pe_at pe_at h1, fun {Z0 H0 Z H σ ρ Q} r q => ?_⟩
    refine hk.go r (q.bind.mono fun dk q vk Z1 H1 x1 r1 => ?_)
    refine hv.go (r.step x1) ((q.bind.step x1).mono fun dv q vv Z2 H2 x2 r2 => ?_)
    refine h2 (r.step (x1.trans x2)) ((q.bind.step (x1.trans x2)).mono fun qs q ps Z3 H3 x3 r3 => ?_)
    exact q _ Z3 H3 ((x1.trans x2).trans x3) (.cons (r1.mono (x2.zz.trans x3.zz)) (r2.mono x3.zz) r3)
theorem carries_flat {P : Program} {w : World} {K : PySem.W.Frag} {Z : Hp} : ∀ {ps : List (V × V)} {qs : List (D × D)} {ws : List (Value × Value)}, RDP w K Z ps qs → VV ps ws → (∀ q ∈ qs, flatB q.1 = true) → ∃ rs : List (Key × Value), Carries (mixKind P w) ws rs ∧ FlatR w K Z qs rs
  | _, _, _, .nil, r, _ => by cases r; exact ⟨[], trivial, .nil⟩
  | _, _, _, .cons (q := q) a b t, r, f => by
    cases r with
    | cons h rr =>
      obtain ⟨rs, c, fr⟩ := carries_flat (P := P) t rr fun q hq => f q (List.mem_cons_of_mem _ hq)
      obtain ⟨k, hk⟩ := Option.isSome_iff_exists.mp (f _ List.mem_cons_self)
      exact ⟨(k, _) :: rs, ⟨flat_val a h.1 hk, rfl, c⟩, .cons ⟨hk, _, h.2, b⟩ fr⟩
theorem FlatR.merge {w : World} {K : PySem.W.Frag} {Z : Hp} : ∀ {more : List (D × D)} {rs : List (Key × Value)} {kvs : List (D × D)} {vs : List (Key × Value)}, FlatR w K Z more rs → FlatR w K Z kvs vs → FlatR w K Z (more.foldl (fun acc p => dPutL acc p.1 p.2) kvs) (merged vs rs)
  | _, _, _, _, .nil, h => h
  | _, _, _, _, .cons a t, h => by
    obtain ⟨hk, v, rv, rd⟩ := a
    have z := FlatR.merge t (h.put hk rv rd)
    exact z
theorem carries_tup {P : Program} {h : Heap} {w : World} {K : PySem.W.Frag} {Z : Hp} (hi : ∀ (p : Addr) (d : D) (nk : NestedKey), RD w K Z (.ref p) d → keyD d = some nk → tupKB d = true → (nestedKind P w).is h nk p) :
    ∀ {ps : List (V × V)} {qs : List (D × D)} {ws : List (Value × Value)}, RDP w K Z ps qs → VV ps ws → (∀ q ∈ qs, tupKB q.1 = true) → ∃ rs : List (NestedKey × Addr × Value), CarriesH (nestedKind P w) h ws rs ∧ TupR w K Z qs rs
  | _, _, _, .nil, r, _ => by cases r; exact ⟨[], trivial, .nil⟩
  | _, _, _, .cons (p := p) (q := q) a b t, r, f => by
    cases r with
    | cons hh rr =>
      obtain ⟨rs, c, fr⟩ := carries_tup hi t rr fun q hq => f q (List.mem_cons_of_mem _ hq)
      have ht := f _ List.mem_cons_self
      obtain ⟨ks, hk, _⟩ := tupKB_key ht
      obtain ⟨h1, h2⟩ := hh
      obtain ⟨kv, vv⟩ := p
      obtain ⟨kd, vd⟩ := q
      rename_i b0 _ _
      obtain ⟨uk, uv⟩ := b0
      cases a with
      | tup e rs' =>
        cases (show uk = Value.ref _ from h1)
        exact ⟨(_, _, _) :: rs, ⟨rfl, rfl, hi _ _ _ (.tup e rs') hk ht, c⟩, .cons ⟨⟨hk, .tup e rs'⟩, _, h2, b⟩ fr⟩
      | _ => simp [tupKB] at ht
theorem TupR.merge {w : World} {K : PySem.W.Frag} {Z : Hp} : ∀ {more : List (D × D)} {rs : List (NestedKey × Addr × Value)} {kvs : List (D × D)} {vs : List (NestedKey × Addr × Value)}, TupR w K Z more rs → TupR w K Z kvs vs → TupR w K Z (more.foldl (fun acc p => dPutL acc p.1 p.2) kvs) (storedAllH vs rs)
  | _, _, _, _, .nil, h => h
  | _, _, _, _, .cons a t, h => by
    obtain ⟨⟨hk, rk⟩, v, rv, rd⟩ := a
    have z := TupR.merge t (h.put hk rk rv rd)
    exact z
theorem length_mkDict : ∀ (more kvs : List (D × D)), (more.foldl (fun acc p => dPutL acc p.1 p.2) kvs).length ≤ kvs.length + more.length
  | [], kvs => by simp
  | p :: r, kvs => by
    have h1 := length_mkDict r (dPutL kvs p.1 p.2)
    have h2 := length_dPutL kvs p.1 p.2
    rw [List.foldl_cons, List.length_cons]
    omega
theorem evPs_len : ∀ (Fps : List (EV × EV)) (ρ : Rho) (qs : List (D × D)), evPs Fps ρ = .ok qs → qs.length = Fps.length
  | [], ρ, qs, h => by cases h; rfl
  | (F, G) :: r, ρ, qs, h => by
    unfold evPs at h
    cases h1 : F ρ with
    | ok k =>
      rw [h1] at h
      cases h2 : G ρ with
      | ok v =>
        rw [h2] at h
        cases h3 : evPs r ρ with
        | ok ps =>
          rw [h3] at h
          cases h
          rw [List.length_cons, List.length_cons, evPs_len r ρ ps h3]
        | exc x => rw [h3] at h; cases h
        | stuck => rw [h3] at h; cases h
      | exc x => rw [h2] at h; cases h
      | stuck => rw [h2] at h; cases h
    | exc x => rw [h1] at h; cases h
    | stuck => rw [h1] at h; cases h
theorem DictTup_walk {prog : Program} {w : World} {A : Around} {E : Value → Shared → Prop} {s : Shared} {env : Env} {keys : List (Option Expr)} {values : List Expr} {Q : Value → Shared → Prop} (hu : (nestedKind prog w).room A)
    (hall : keys.all (·.isSome) = true) (hl : keys.length = values.length) (h0 : keys ≠ []) (hlen : keys.length ≤ 15)
    (h : wpAny (model prog w) A (evalPairs (pairTrees keys values env pos)) (fun vs s₁ => ∃ ps, CarriesH (nestedKind prog w) s₁.heap vs ps ∧ s₁.heap.DictOfH (nestedKind prog w) s.heap.objs.size [] ∧
      ∀ h' tk, h'.DictOfH (nestedKind prog w) s.heap.objs.size (storedAllH [] ps) → Heap.SameBut s.heap.objs.size s₁.heap h' → Q (.ref s.heap.objs.size) { s₁ with heap := h', toks := tk }) E
      { s with heap := s.heap.push { cls := .type "dict", data := .dict #[] } }) :
    wpAny (model prog w) A (eval (.Dict keys values pos) env) Q E s := by
  have hn := pairTrees_length keys values env pos hall hl
  have hne : pairTrees keys values env pos ≠ [] := by
    intro he
    rw [he] at hn
    exact h0 (List.length_eq_zero_iff.mp hn.symm)
  rw [arm_eval_Dict, zip_pairTrees keys values env pos hall hl, dictDisplay_pairs _ hne (by rw [hn]; omega)]
  exact wpAny_bind (wpAny_standAt (wpAny_bind (wpAny_subDictH (knd := nestedKind prog w) (Q := fun d s' => wpAny (model prog w) A (pure (Value.ref d)) Q E s') hu (by rw [hn]; exact hlen)
    (wpAny_mono h (fun vs s₁ h₁ => by obtain ⟨ps, hc, hm, hq⟩ := h₁; exact ⟨ps, hc, hm, fun h' tk a b => wpAny_pure (hq h' tk a b)⟩) fun _ _ e => e))))
theorem eo_disp {ks : List (Option Expr)} {vs : List Expr} {Fps : List (EV × EV)} (hu : HasRoom X) (h : EdL X W ks vs Fps) (hall : ks.all (·.isSome) = true := by rfl) (hl : ks.length = vs.length := by rfl) (h0 : ks ≠ [] := by simp) (h15 : ks.length ≤ 15 := by decide) (hF : Fps.length = ks.length := by rfl) :
    Eo X W (.Dict ks vs pos) (eDisp Fps) := by
  refine ⟨fun {Z0 H0 Z H σ ρ Q} r q pins s I => ?_⟩
  obtain ⟨trs, h1, h2⟩ := edl_pps (pos := pos) h
  have hn := I.hok.fresh (Nat.le_refl s.heap.objs.size)
  have hg : (s.heap.push { cls := .type "dict", data := .dict #[] }).get? s.heap.objs.size = some { cls := .type "dict", data := .dict #[] } := Heap.get?_push_size _ rfl
  have sys : (s.heap.objs.size == sysModules) = false := beq_eq_false_iff_ne.mpr (Ne.symm (Nat.ne_of_lt I.big))
  have I1 : Inv X pins σ (upd H s.heap.objs.size (rawH s.heap.objs.size { cls := .type "dict", data := .dict #[] })) { s with heap := s.heap.push { cls := .type "dict", data := .dict #[] } } :=
    I.laid (a := s.heap.objs.size) (t' := s.toks) (fun _ _ q => Heap.get?_push_of_some _ q) (Nat.le_refl _) ⟨hg, ⟨_, hg⟩, fun _ _ q k => k _ q⟩
  have x0 : Ext Z H Z (upd H s.heap.objs.size (rawH s.heap.objs.size { cls := .type "dict", data := .dict #[] })) := Ext.newO r.zh hn
  have zn : Z s.heap.objs.size = none := zfree r.zh hn
  unfold eDisp at q
  have q := q.bind
  have hp := evPs_len Fps ρ
  cases hps : evPs Fps ρ with
  | stuck => rw [hps] at q; exact q.elim
  | exc xx =>
    rw [hps] at q
    refine wpAny_Dict_walk (knd := mixKind X.prog X.w) hall hl h0 h15 (thn (h1.run pins _ σ _ (fun _ _ => False) I1 (h2 (r.step x0) ?_)) fun ws s2 ⟨ps, H2, I2, rel, e⟩ => e.elim)
    rw [hps]
    exact XPost.step q x0
  | ok qs =>
    rw [hps] at q
    have hlen := hp qs hps
    have q : Post X W Z H σ (guardR (okKs (qs.map (·.1))) (PyData.dict (mkDict qs))) (fun d => ∀ (a : Addr) (Z' H' : Hp), Ext Z H Z' H' → H a = none → Own X.w X.K Z' H' a d → Q (V.ref a) H') := q
    obtain ⟨ok, q⟩ := q.guard
    have go : ∀ (Q' : List (V × V) → Hp → Prop), (∀ ps Z' H', Ext Z H Z' H' → H' s.heap.objs.size = some (rawH s.heap.objs.size { cls := .type "dict", data := .dict #[] }) → Z' s.heap.objs.size = none → RDP X.w X.K Z' ps qs → Q' ps H') → tPairs trs σ (upd H s.heap.objs.size (rawH s.heap.objs.size { cls := .type "dict", data := .dict #[] })) Q' := by
      intro Q' hq
      refine h2 (r.step x0) ?_
      rw [hps]
      exact fun ps Z' H' x rd => hq ps Z' H' (x0.trans x) (x.hh _ _ upd_same) (x.nw _ _ zn upd_same) rd
    have zl : (mkDict qs).length ≤ sizeLine := by
      have := length_mkDict qs []
      rw [List.length_nil] at this
      unfold mkDict
      have l63 := sizeLine_eq
      omega
    have fin : ∀ (s2 : Shared) (Z' H' : Hp) (h' : Heap) (t' : Nat), Inv X pins σ H' s2 → Ext Z H Z' H' → H' s.heap.objs.size = some (rawH s.heap.objs.size { cls := .type "dict", data := .dict #[] }) → Z' s.heap.objs.size = none → DictAt X.w X.K Z' h' s.heap.objs.size (mkDict qs) → Heap.SameBut s.heap.objs.size s2.heap h' →
        EP X pins σ Q (.ref s.heap.objs.size) { s2 with heap := h', toks := t' } := by
      intro s2 Z' H' h' t' I2 x e zn' da hs
      obtain ⟨o', ho'⟩ := da.obj
      refine ⟨.ref _, _, inv_raw I2 e hs ho', rfl, q _ Z' _ ?_ hn (da.own ho' zn' upd_same)⟩
      refine ⟨fun b u hb => ?_, x.zz, fun b u hb => ?_, fun b u h1 h2 => x.nw b u h1 h2⟩
      · rw [upd_ne (ne_of_none hb hn)]
        exact x.hh b u hb
      · rw [upd_ne (ne_of_none hb zn')]
        exact x.zh b u hb
    unfold okKs at ok
    rw [Bool.or_eq_true, List.all_eq_true, List.all_eq_true] at ok
    rcases ok with ok | ok
    · have ok : ∀ q ∈ qs, flatB q.1 = true := fun q hq => ok _ (List.mem_map_of_mem hq)
      refine wpAny_Dict_walk (knd := mixKind X.prog X.w) hall hl h0 h15 (thn (h1.run pins _ σ _ (fun ps H' => ∃ Z', Ext Z H Z' H' ∧ H' s.heap.objs.size = some (rawH s.heap.objs.size { cls := .type "dict", data := .dict #[] }) ∧ Z' s.heap.objs.size = none ∧ RDP X.w X.K Z' ps qs) I1 (go _ fun ps Z' H' x e zn' rd => ⟨Z', x, e, zn', rd⟩)) fun ws s2 ⟨ps, H2, I2, rel, Z', x, e, zn', rd⟩ => ?_)
      obtain ⟨rs, c, fr⟩ := carries_flat (P := X.prog) rd rel ok
      refine ⟨rs, c, ?_, fun h' dd hs => fin s2 Z' H2 h' _ I2 x e zn' (.ofFlat sys zl dd (fr.merge .nil)) hs⟩
      exact ⟨_, #[], 0, raw_get I2 e, ⟨rfl, rfl, rfl⟩, rfl, fun e he => by simp at he, .nil, List.nodup_nil⟩
    · have ok : ∀ q ∈ qs, tupKB q.1 = true := fun q hq => ok _ (List.mem_map_of_mem hq)
      refine DictTup_walk (by show X.A.units + 8 < cLine; have := hroom hu; omega) hall hl h0 h15 (thn (h1.run pins _ σ _ (fun ps H' => ∃ Z', Ext Z H Z' H' ∧ H' s.heap.objs.size = some (rawH s.heap.objs.size { cls := .type "dict", data := .dict #[] }) ∧ Z' s.heap.objs.size = none ∧ RDP X.w X.K Z' ps qs) I1 (go _ fun ps Z' H' x e zn' rd => ⟨Z', x, e, zn', rd⟩)) fun ws s2 ⟨ps, H2, I2, rel, Z', x, e, zn', rd⟩ => ?_)
      obtain ⟨rs, c, fr⟩ := carries_tup (P := X.prog) (h := s2.heap) (fun p d nk a b c => tup_is I2 x.zh a b c) rd rel ok
      refine ⟨rs, c, ?_, fun h' tk dd hs => fin s2 Z' H2 h' tk I2 x e zn' (.ofTup sys zl dd (fr.merge .nil)) hs⟩
      exact ⟨_, #[], 0, raw_get I2 e, ⟨rfl, rfl, rfl⟩, rfl, rfl, fun x hx => by simp at hx, List.nodup_nil⟩
end
end PQ

/-! PQ.28: x, y, z = a, b, c -/
namespace PQ
open PySem PySem.Spec PyProof.Rows L2
section
variable {X : Cx} {W : WX} {Z0 H0 Z H : Hp} {σ : St} {ρ : Rho}
variable {e a b c d : Expr} {pos p p1 p2 : Pos} {S S' : ES}
def sPar3 (i j l : Nat) (F G I : Rho → R Sl) : ES := fun ρ => Out.of (F ρ) ρ fun s => Out.of (G ρ) ρ fun t => Out.of (I ρ) ρ fun u => .nx (((ρ.set i s).set j t).set l u)
theorem es_par3 (i j l : Nat) {x y z : Str} {px py pz pt : Pos} {kt k2 pt2} {F G I : Rho → R Sl} (hc : X.calm = true) (hN : X.N.Nodup) (h1 : Em X W a F) (h2 : Em X W b G) (h3 : Em X W c I) (hi : X.N[i]? = some x := by rfl) (hj : X.N[j]? = some y := by rfl) (hl : X.N[l]? = some z := by rfl)
    (hij : i ≠ j := by decide) (hil : i ≠ l := by decide) (hjl : j ≠ l := by decide)
    (hx : X.env.scope.names.lookup x = some .local := by rfl) (hy : X.env.scope.names.lookup y = some .local := by rfl) (hz : X.env.scope.names.lookup z = some .local := by rfl)
    (hw : swappedStores [.Tuple [.Name x px, .Name y py, .Name z pz] kt pt] (.Tuple [a, b, c] k2 pt2) X.env = pure (some [x, y, z]) := by rfl)
    (hs : swapsWithSole [.Tuple [.Name x px, .Name y py, .Name z pz] kt pt] (.Tuple [a, b, c] k2 pt2) pos.line X.env = pure false := by rfl)
    (he : starEach [a, b, c] X.env = (false, eval a X.env) :: starEach [b, c] X.env := by rfl) (he2 : starEach [b, c] X.env = (false, eval b X.env) :: starEach [c] X.env := by rfl) (he3 : starEach [c] X.env = (false, eval c X.env) :: starEach [] X.env := by rfl) :
    Es X W (.Assign [.Tuple [.Name x px, .Name y py, .Name z pz] kt pt] (.Tuple [a, b, c] k2 pt2) pos) (sPar3 i j l F G I) := by
  refine ⟨fun {Z0 H0 Z H σ ρ D} r q => toAtS (ps_par3 hc hN hi hj hl hij hil hjl hx hy hz (pa_cons pe_at (pa_cons pe_at (pa_cons pe_at pa_nil he3) he2) he) hw hs) ?_⟩
  refine h1.go r ((q.post r).mono fun s hd v Z1 H1 x1 n1 => ?_)
  refine h2.go (r.step x1) (((hd.post r).step x1).mono fun t ht u Z2 H2 x2 n2 => ?_)
  refine h3.go (r.step (x1.trans x2)) (((ht.post r).step (x1.trans x2)).mono fun t ht w Z3 H3 x3 n3 => ?_)
  exact ⟨v, u, w, rfl, ht _ _ _ ((put2 r x1 x2 hij n1 n2).put x3 l n3) ((x1.zz.trans x2.zz).trans x3.zz)⟩
end
end PQ

/-! PQ.29: x[::-1]; is True, is False -/
namespace PQ
open PySem PySem.Spec PyProof.Rows L2
section
variable {prog : Program} {w : World} {A : Around} {E : Value → Shared → Prop} {s : Shared}
theorem fm_congr {α β : Type} {f g : α → Option β} : ∀ {l : List α}, (∀ x ∈ l, f x = g x) → l.filterMap f = l.filterMap g
  | [], _ => rfl
  | x :: l, h => by
    rw [List.filterMap_cons, List.filterMap_cons, h x List.mem_cons_self, fm_congr fun y hy => h y (List.mem_cons_of_mem _ hy)]
theorem rev_pick {α : Type} (xs : List α) : ((List.range xs.length).filterMap fun (m : Nat) => xs[(((xs.length : Int) - 1) + (m : Int) * (-1)).toNat]?) = xs.reverse := by
  have h := PySem.W.krv_range xs.length
  have h2 : ((List.range xs.length).filterMap fun (m : Nat) => xs[(((xs.length : Int) - 1) + (m : Int) * (-1)).toNat]?) = ((List.range xs.length).map fun k => xs.length - 1 - k).filterMap fun m => xs[m]? := by
    rw [List.filterMap_map]
    refine fm_congr fun m hm => ?_
    rw [List.mem_range] at hm
    have e : (((xs.length : Int) - 1) + (m : Int) * (-1)).toNat = xs.length - 1 - m := by omega
    show xs[_]? = xs[_]?
    rw [e]
  rw [h2, h, List.filterMap_reverse]
  congr 1
  have := PySem.W.krv_all xs.toArray
  simpa using this
theorem getItem_tuple_rev {t sl : Addr} {items : Array Value} {vs : Value} {Q : Value → Shared → Prop} (ht : IsTup s.heap t items) (hs : s.heap.IsSliceOf sl .none .none vs) (ps : IsPart vs (some (-1)))
    (h : Q (.ref s.heap.objs.size) { s with heap := s.heap.push { cls := .type "tuple", data := .seq items.toList.reverse.toArray } })
    (hsz : items.size ≤ sizeLine) : wpAny (model prog w) A (getItem (.ref t) (.ref sl)) Q E s := by
  have htake : sizeOk (.seq items.toList.reverse.toArray) := by
    show items.toList.reverse.toArray.size ≤ sizeLine
    simpa using hsz
  obtain ⟨os, hos, hcs, hds⟩ := id hs
  have hTs : s.TypeIs (.ref sl) "slice" := ⟨os, hos, hcs⟩
  unfold getItem
  try with_reducible refine wpAny_holding ?_
  first | refine wpAny_bind (wpAny_pure ?_) | skip
  refine wpAny_bind (wpAny_sequenceKey ht.typeIs (by decide) ?_)
  refine wpAny_bind (wpAny_callSpecial?_slot (name := Str.ofString "__getitem__") ht.typeIs PyProof.Rows.slot_tuple_getitem
    (wpAny_call_entry PyProof.Rows.slot_tuple_getitem ht.typeIs entry_tuple_getitem ?_ (args_tuple_getitem _ _)))
  show wpAny _ _ (Builtin.Tuple.tupleItemsOf (.ref t) >>= _) _ _ s
  refine wpAny_bind (tupleItemsOf_ ht ?_)
  refine wpAny_bind (wpAny_typeOf hTs ?_)
  rw [if_pos (by decide)]
  refine wpAny_bind ?_
  unfold Builtin.Slice.sliceApplied Builtin.Slice.sliceFields
  refine wpAny_bind (wpAny_bind (wpAny_field hos hds (x := .none) rfl (wpAny_bind (wpAny_field hos hds (x := .none) rfl (wpAny_bind (wpAny_field hos hds (x := vs) rfl (wpAny_pure ?_)))))))
  refine wpAny_bind (HT.slicePart_ ps ?_)
  show wpAny _ _ (if ((-1 : Int) == 0) = true then _ else _) _ _ s
  rw [if_neg (by decide)]
  refine wpAny_bind (HT.slicePart_ .none (wpAny_bind (HT.slicePart_ .none (wpAny_bind (wpAny_pure ?_)))))
  show wpAny _ _ (match Builtin.Slice.sliceAdjust none none (-1 : Int) ((items.size : Nat) : Int) with | (lo, hi) => pure (lo, (-1 : Int), Builtin.Slice.slicePlaces lo hi (-1 : Int))) _ _ s
  have e1 : Builtin.Slice.sliceAdjust none none (-1 : Int) ((items.size : Nat) : Int) = (((items.size : Nat) : Int) - 1, -1) := rfl
  rw [e1]
  have e2 : Builtin.Slice.slicePlaces (((items.size : Nat) : Int) - 1) (-1) (-1 : Int) = items.size := by
    unfold Builtin.Slice.slicePlaces
    rw [if_neg (by decide)]
    split
    · rw [Int.neg_neg, Int.ediv_one]
      omega
    · omega
  show wpAny _ _ (pure ((((items.size : Nat) : Int) - 1), (-1 : Int), Builtin.Slice.slicePlaces (((items.size : Nat) : Int) - 1) (-1) (-1 : Int))) _ _ s
  rw [e2]
  refine wpAny_pure ?_
  have hno : ¬ (((((items.size : Nat) : Int) - 1) == 0 && (-1 : Int) == 1 && items.size == items.size) = true) := by
    intro q
    rw [Bool.and_eq_true, Bool.and_eq_true] at q
    exact absurd q.1.2 (by decide)
  show wpAny _ _ (if ((((items.size : Nat) : Int) - 1) == 0 && (-1 : Int) == 1 && items.size == items.size) = true then _ else _) _ _ s
  rw [if_neg hno]
  have e : ((List.range items.size).filterMap fun (m : Nat) => items[((((items.size : Nat) : Int) - 1) + (m : Int) * (-1)).toNat]?).toArray = items.toList.reverse.toArray := by
    congr 1
    have := rev_pick items.toList
    simpa using this
  rw [e]
  first
    | exact wpAny_bind (m := Builtin.Tuple.tupleExact _) (wpAny_newObj_type (wpAny_pure ⟨_, rfl, wpAny_pure h⟩) htake)
    | exact wpAny_bind (m := Builtin.Tuple.tupleExact _) (wpAny_newObj_type (wpAny_bind (wpAny_pure (wpAny_pure ⟨_, rfl, wpAny_pure h⟩))) htake)
    | exact wpAny_bind (wpAny_bind (m := Builtin.Tuple.tupleExact _) (wpAny_newObj_type (wpAny_pure (wpAny_pure ⟨_, rfl, wpAny_pure h⟩)) htake))
    | exact wpAny_bind (wpAny_bind (m := Builtin.Tuple.tupleExact _) (wpAny_newObj_type (wpAny_pure ⟨_, rfl, wpAny_pure h⟩) htake))
end

/-! ### the rule: lists, tuples -/
def tRevT (K : PySem.W.Frag) (te : TE) : TE := fun σ H Q => te σ H fun x H1 => ∃ a xs, x = .ref a ∧ SqT K H1 a xs ∧ ∀ p, H1 p = none → Q (.ref p) (upd H1 p (.tup xs.reverse))
section
variable {X : Cx} {W : WX} {a b c e : Expr} {es rest : List Expr} {pos p p1 p2 p3 : Pos} {F G I : EV} {T U : ET} {Fs : EA} {te : TE} {k : Nat}
theorem pe_revT (he : PE X e te) : PE X (.Subscript e (.Slice none none (some (.UnaryOp .USub (.Constant (.int 1) k p1) p2)) p3) pos) (tRevT X.K te) := by
  refine ⟨fun pins s σ H Q I h => ?_⟩
  refine Subscript_ (thn (he.run pins s σ H _ I h) fun v s1 ⟨x, H1, I1, r1, q1⟩ => ?_)
  obtain ⟨a, xs, ex, hx, q⟩ := q1
  subst ex
  cases r1
  have hst : PO X (some (.UnaryOp .USub (.Constant (.int 1) k p1) p2)) (tPart (tUn (rU fun i => .int (-i)) (tC (.int 1)))) := po_some (pe_un un_neg pe_int)
  refine wpAny_Slice (thn (po_none.run pins s1 σ H1 (fun o H2 => o = none ∧ H2 = H1) I1 ⟨rfl, rfl⟩) fun vl s2 ⟨l, H2, I2, pl, el, e2⟩ => ?_)
  subst el e2
  refine thn (po_none.run pins s2 σ H2 (fun o H3 => o = none ∧ H3 = H2) I2 ⟨rfl, rfl⟩) fun vu s3 ⟨u, H3, I3, pu, eu, e3⟩ => ?_
  subst eu e3
  refine thn (hst.run pins s3 σ H3 (fun o H4 => o = some (-1) ∧ H4 = H3) I3 ⟨1, rfl, -1, rfl, rfl, rfl⟩) fun vs s4 ⟨o, H4, I4, ps, eo, e4⟩ => ?_
  subst eo e4
  cases pl
  cases pu
  have I5 : Inv X pins σ H4 { s4 with heap := s4.heap.push { cls := .type "slice", data := .fields #[.none, .none, vs] } } := I4.kept (t' := s4.toks) fun b ob q => Heap.get?_push_of_some _ q
  obtain ⟨its, r, ht, hz⟩ := I5.tuple hx
  have hlen := r.length
  show wpAny (model X.prog X.w) X.A (subscriptTail e (.Slice none none (some (.UnaryOp .USub (.Constant (.int 1) k p1) p2)) p3) (.ref a) (.ref s4.heap.objs.size)) (EP X pins σ Q) X.xe { s4 with heap := s4.heap.push { cls := .type "slice", data := .fields #[.none, .none, vs] } }
  refine tail_any (ops := [.ref a, .ref s4.heap.objs.size]) ht.typeIs (PyProof.Rows.slot_tuple_getitem.lookup) ?_ (by with_unfolding_all rfl)
  refine getItem_tuple_rev ht (Heap.IsSliceOf.new _ .none .none vs) ps ?_ (by rw [List.size_toArray]; omega)
  refine ⟨.ref _, _, I5.laid (t' := s4.toks) (o := .tup xs.reverse) (fun b ob q => Heap.get?_push_of_some _ q) (Nat.le_refl _) ?_, rfl, q _ (I5.hok.fresh (Nat.le_refl _))⟩
  refine ⟨by rw [List.length_reverse]; omega, its.reverse, r.reverse, ?_⟩
  exact IsTup.new _ _
def revS (x : Str) : Str := ⟨x.cps.toList.reverse.toArray⟩
def tRevS (te : TE) : TE := fun σ H Q => te σ H fun x H1 => ∃ z : Str, x = .str z ∧ z.length ≤ sizeLine ∧ Q (.str (revS z)) H1
theorem pe_revS (he : PE X e te) : PE X (.Subscript e (.Slice none none (some (.UnaryOp .USub (.Constant (.int 1) k p1) p2)) p3) pos) (tRevS te) := by
  refine ⟨fun pins s σ H Q I h => ?_⟩
  refine Subscript_ (thn (he.run pins s σ H _ I h) fun v s1 ⟨x, H1, I1, r1, q1⟩ => ?_)
  obtain ⟨z, ex, hz, q⟩ := q1
  subst ex
  obtain ⟨t, rfl⟩ := (show ∃ t, v = Value.str z t from r1)
  have hst : PO X (some (.UnaryOp .USub (.Constant (.int 1) k p1) p2)) (tPart (tUn (rU fun i => .int (-i)) (tC (.int 1)))) := po_some (pe_un un_neg pe_int)
  refine wpAny_Slice (thn (po_none.run pins s1 σ H1 (fun o H2 => o = none ∧ H2 = H1) I1 ⟨rfl, rfl⟩) fun vl s2 ⟨l, H2, I2, pl, el, e2⟩ => ?_)
  subst el e2
  refine thn (po_none.run pins s2 σ H2 (fun o H3 => o = none ∧ H3 = H2) I2 ⟨rfl, rfl⟩) fun vu s3 ⟨u, H3, I3, pu, eu, e3⟩ => ?_
  subst eu e3
  refine thn (hst.run pins s3 σ H3 (fun o H4 => o = some (-1) ∧ H4 = H3) I3 ⟨1, rfl, -1, rfl, rfl, rfl⟩) fun vs s4 ⟨o, H4, I4, ps, eo, e4⟩ => ?_
  subst eo e4
  cases pl
  cases pu
  obtain ⟨t2, rfl⟩ : ∃ t2, vs = .int (-1) t2 := by cases ps; exact ⟨_, rfl⟩
  have I5 : Inv X pins σ H4 { s4 with heap := s4.heap.push { cls := .type "slice", data := .fields #[.none, .none, .int (-1) t2] } } := I4.kept (t' := s4.toks) fun b ob q => Heap.get?_push_of_some _ q
  show wpAny (model X.prog X.w) X.A (subscriptTail e (.Slice none none (some (.UnaryOp .USub (.Constant (.int 1) k p1) p2)) p3) (.str z t) (.ref s4.heap.objs.size)) (EP X pins σ Q) X.xe { s4 with heap := s4.heap.push { cls := .type "slice", data := .fields #[.none, .none, .int (-1) t2] } }
  refine tail_any (ops := [.str z t, .ref s4.heap.objs.size]) (typeIs_str _ z t) (PySem.F.slot_str_getitem.lookup) ?_ (by with_unfolding_all rfl)
  refine wpAny_getItem_str_slice (l := none) (u := none) (st := some (-1, t2)) ⟨_, Heap.get?_push_size _ rfl, rfl, rfl⟩ rfl ?_
  have e : sliceMade z t none none (some (-1, t2)) = .str (revS z) := by
    have h1 : slicePicked z none none (some (-1, t2)) = (List.range z.length).map fun k => z.length - 1 - k := PySem.W.krv_sliceRange z.length
    unfold sliceMade
    rw [h1]
    show Made.str _ = _
    congr 1
    unfold revS
    congr 2
    rw [PySem.W.krv_range, List.filterMap_reverse]
    congr 1
    exact PySem.W.krv_all z.cps
  rw [e]
  exact ⟨by show z.cps.toList.reverse.toArray.size ≤ sizeLine; have hz : z.cps.size ≤ sizeLine := hz; simpa using hz, .str _, H4, I5.tok _, ⟨_, rfl⟩, q⟩
def dRev : D → R D
  | .str z => guardR (fits z.length) (.str (revS z))
  | .list ds => .ok (.list ds.reverse)
  | .tuple ds => .ok (.tuple ds.reverse)
  | _ => .stuck
theorem ev_rev (ha : Ev X W e F) : Ev X W (.Subscript e (.Slice none none (some (.UnaryOp .USub (.Constant (.int 1) k p1) p2)) p3) pos) (e1 dRev F) := by
  refine ⟨fun {Z0 H0 Z H σ ρ Q} r q => ?_⟩
  have q := q.bind
  have g := ha.go r (Q := fun x H1 => ∃ a xs, x = V.ref a ∧ SqL X.K H1 a xs ∧ ∀ p, H1 p = none → Q (.ref p) (upd H1 p (.lst xs.reverse)))
  have g3 := ha.go r (Q := fun x H1 => ∃ z : Str, x = V.str z ∧ z.length ≤ sizeLine ∧ Q (.str (revS z)) H1)
  have g2 := ha.go r (Q := fun x H1 => ∃ a xs, x = V.ref a ∧ SqT X.K H1 a xs ∧ ∀ p, H1 p = none → Q (.ref p) (upd H1 p (.tup xs.reverse)))
  cases h : F ρ with
  | stuck => rw [h] at q; exact q.elim
  | exc x => rw [h] at q g; exact toAt (pe_revL pe_at) (g q)
  | ok d =>
    rw [h] at q g g2 g3
    cases d with
    | str z =>
      have q : Post X W Z H σ (guardR (fits z.length) (PyData.str (revS z))) (QV X Z H Q) := q
      obtain ⟨hc, q⟩ := q.guard
      refine toAt (pe_revS pe_at) (g3 fun v Z' H' x rv => ?_)
      cases rv
      exact ⟨z, rfl, fits_le hc, q _ _ _ x (.str _)⟩
    | list ds =>
      have q : QV X Z H Q (.list ds.reverse) := q
      refine toAt (pe_revL pe_at) (g fun v Z' H' x rv => ?_)
      cases rv with
      | lst h1 r1 =>
        refine ⟨_, _, rfl, .inl (.inl (x.zh _ _ h1)), fun p hp => ?_⟩
        exact q _ _ _ (x.trans (Ext.new x.zh hp)) (.lst upd_same (r1.mono (Ext.new (o := .lst _) x.zh hp).zz).reverse)
    | tuple ds =>
      have q : QV X Z H Q (.tuple ds.reverse) := q
      refine toAt (pe_revT pe_at) (g2 fun v Z' H' x rv => ?_)
      obtain ⟨b, xs, rfl, h1, r1⟩ := rd_tup rv
      refine ⟨_, _, rfl, SqT.mono x.zh h1, fun p hp => ?_⟩
      exact q _ _ _ (x.trans (Ext.new x.zh hp)) (.tup (.inl (.inl upd_same)) (r1.mono (Ext.new (o := .tup _) x.zh hp).zz).reverse)
    | _ => exact q.elim
/-! ### is True, is not True -/
def dIsB : D → D → R D
  | .bool a, .bool b => .ok (.bool (decide (a = b)))
  | _, _ => .stuck
def dNotB : D → D → R D
  | .bool a, .bool b => .ok (.bool (!decide (a = b)))
  | _, _ => .stuck
theorem cl_isB (x y : D) : (dIsB x y).clean := by unfold dIsB; split <;> trivial
theorem cl_notB (x y : D) : (dNotB x y).clean := by unfold dNotB; split <;> trivial
theorem od_isB : OpD X rIsB dIsB := by
  intro Z H x y dx dy Q s rx ry h
  unfold dIsB at h
  split at h
  · cases rx; cases ry
    exact ⟨_, _, rfl, rfl, h _ _ _ (Ext.refl s) (.bl _)⟩
  · exact h.elim
theorem od_notB : OpD X rNotB dNotB := by
  intro Z H x y dx dy Q s rx ry h
  unfold dNotB at h
  split at h
  · cases rx; cases ry
    exact ⟨_, _, rfl, rfl, h _ _ _ (Ext.refl s) (.bl _)⟩
  · exact h.elim
theorem ev_isB (ha : Ev X W a F) (hb : Ev X W b G) (hm : behindInMarks .Is b = false := by rfl) : Ev X W (.Compare a [.Is] [b] pos) (e2 dIsB F G) := ev_2 (fun p q => pe_cmpR op_isBl p q hm) od_isB cl_isB ha hb
theorem ev_notB (ha : Ev X W a F) (hb : Ev X W b G) (hm : behindInMarks .IsNot b = false := by rfl) : Ev X W (.Compare a [.IsNot] [b] pos) (e2 dNotB F G) := ev_2 (fun p q => pe_cmpR op_notBl p q hm) od_notB cl_notB ha hb
end
end PQ

/-! PQ.30: reversed(range(..)) -/
namespace PQ
open PySem PySem.Spec PyProof.Rows L2
section
variable {X : Cx} {W : WX} {a b c e tg : Expr} {es : List Expr} {pos p : Pos} {F G : EV} {Fs : EA}
theorem io_rev {Z : Hp} (a b : Int) : ItOk X (Itc (a + (((b - a).toNat : Nat) : Int) - 1) (-1) (b - a).toNat) Z (rgD a b).reverse := by
  have el : (rgD a b).length = (b - a).toNat := by unfold rgD; simp
  have el2 : (rgD a b).reverse.length = (b - a).toNat := by rw [List.length_reverse, el]
  refine ⟨fun s1 s2 => Nat.le_of_eq el2.symm, fun {i Z' H' d} s1 s2 e => ?_, fun {i Z' H' d x H''} s1 s2 e y => ?_⟩
  · rw [← el2]; exact (List.getElem?_eq_some_iff.mp e).1
  · obtain ⟨rfl, rfl⟩ := y
    have hi' : i < (rgD a b).reverse.length := (List.getElem?_eq_some_iff.mp e).1
    rw [el2] at hi'
    rw [List.getElem?_reverse (by rw [el]; exact hi'), el] at e
    unfold rgD at e
    rw [List.getElem?_map, List.getElem?_range (by omega)] at e
    cases e
    refine ⟨_, Ext.refl s2, ?_⟩
    have e2 : a + (((b - a).toNat : Nat) : Int) - 1 + ((i : Nat) : Int) * -1 = a + (((b - a).toNat - 1 - i : Nat) : Int) := by omega
    rw [e2]
    exact .int _
def iRev (FR : ER) : EI := fun ρ => FR ρ >>= fun o => guardR (big62 o.1 && big62 o.2) (rgD o.1 o.2).reverse
theorem ei_revRg {FR : ER} (hm : X.mg "reversed" = none) (ha : Er X W a FR) (hg : Gl X "reversed" := by rfl) (na : starEach [a] X.env = (false, eval a X.env) :: starEach [] X.env := by rfl) : Ei X W tg (.Call (.Name "reversed" p) [a] [] pos) (iRev FR) := by
  refine ⟨fun {Z0 H0 Z H σ ρ Q} r q => ?_⟩
  obtain ⟨t, ht, hq⟩ := ha.go (Q := fun a b H1 => -(2 ^ 62) ≤ a ∧ a < 2 ^ 62 ∧ -(2 ^ 62) ≤ b ∧ b < 2 ^ 62 ∧ Q (Itc (a + (((b - a).toNat : Nat) : Int) - 1) (-1) (b - a).toNat) H1) r (q.bind.mono fun o ho Z1 H1 x1 => by
    obtain ⟨hok, ho⟩ := ho.guard
    rw [Bool.and_eq_true] at hok
    obtain ⟨b1, b2⟩ := big62_of hok.1
    obtain ⟨b3, b4⟩ := big62_of hok.2
    exact ⟨b1, b2, b3, b4, ho _ _ _ x1 (io_rev _ _)⟩)
  exact toAtI (pi_revR hg hm ht na) hq
end
end PQ

/-! PQ.31: lists of own lists: their making (printed by mkq31.py from Q7's comprehension) -/
namespace PQ
open PySem PySem.Spec PyProof.Rows L2

/-- the list as a row -/
def eLs (F : EV) : EV := fun ρ => F ρ >>= fun d => match d with
  | .list ds => .ok (.list ds)
  | _ => .stuck
def rowD : D → List D
  | .list ds => ds
  | _ => []
def eCompN (Fi : EI) (A : EG) (T : ET) (F : EV) (vs : List Nat) : EA := fun ρ => Fi ρ >>= fun ds => guardR (fits ds.length) ds >>= fun ds => nx (compR (cStep A T (eLs F) (wipeR ρ vs)) ds) >>= fun ys => .ok ys
/-- the lists that are laid so far -/
structure LInv (w : World) (K : PySem.W.Frag) (H1 : Hp) (D : Addr) (Z H : Hp) (bs : List Addr) (ys : List PQ.D) : Prop where
  zD : Z D = none
  hD : H D = some (.lst (bs.map .ref))
  it : ∀ (i : Nat) (b : Addr), bs[i]? = some b → ∃ xs ds, ys[i]? = some (.list ds) ∧ Z b = none ∧ H b = some (.lst xs) ∧ RDs w K Z xs ds
  ln : bs.length = ys.length
  nd : (D :: bs).Nodup
  fr : ∀ b ∈ bs, H1 b = none
section
variable {w : World} {K : PySem.W.Frag} {H1 Z H Z' H' : Hp} {D : Addr} {bs : List Addr} {ys : List PQ.D}
theorem LInv.nil (hz : Z D = none) (h : H D = some (.lst [])) : LInv w K H1 D Z H [] [] := ⟨hz, h, fun i b e => by simp at e, rfl, by simp, fun b hb => by cases hb⟩
theorem LInv.there (h : LInv w K H1 D Z H bs ys) {b : Addr} (hb : b ∈ bs) : ∃ u, H b = some u := by
  obtain ⟨i, hi⟩ := List.mem_iff_getElem?.mp hb
  obtain ⟨xs, ds, _, _, h3, _⟩ := h.it i b hi
  exact ⟨_, h3⟩
theorem LInv.ext (h : LInv w K H1 D Z H bs ys) (x : Ext Z H Z' H') : LInv w K H1 D Z' H' bs ys := by
  refine ⟨x.nw _ _ h.zD h.hD, x.hh _ _ h.hD, fun i b hb => ?_, h.ln, h.nd, h.fr⟩
  obtain ⟨xs, ds, h1, h2, h3, h4⟩ := h.it i b hb
  exact ⟨xs, ds, h1, x.nw _ _ h2 h3, x.hh _ _ h3, h4.mono x.zz⟩
theorem LInv.snoc (h : LInv w K H1 D Z H bs ys) {v : Addr} {xs : List V} {ds : List PQ.D} (hv : v ≠ D) (hb : v ∉ bs) (hf : H1 v = none) (hz : Z v = none) (hh : H v = some (.lst xs)) (rd : RDs w K Z xs ds) : LInv w K H1 D Z (upd H D (.lst (bs.map V.ref ++ [.ref v]))) (bs ++ [v]) (ys ++ [.list ds]) := by
  have hn := h.nd
  rw [List.nodup_cons] at hn
  refine ⟨h.zD, by rw [upd_same, List.map_append]; rfl, fun i b e => ?_, by rw [List.length_append, List.length_append, h.ln]; rfl, ?_, fun b hb' => ?_⟩
  · by_cases hi : i < bs.length
    · rw [List.getElem?_append_left hi] at e
      obtain ⟨xs', ds', h1, h2, h3, h4⟩ := h.it i b e
      have hbD : b ≠ D := fun z => hn.1 (z ▸ List.mem_of_getElem? e)
      exact ⟨xs', ds', by rw [List.getElem?_append_left (by rw [← h.ln]; exact hi)]; exact h1, h2, by rw [upd_ne hbD]; exact h3, h4⟩
    · rw [List.getElem?_append_right (by omega)] at e
      have e0 : i - bs.length = 0 := by
        have := (List.getElem?_eq_some_iff.mp e).1
        simp at this
        omega
      rw [e0] at e
      simp at e
      subst e
      exact ⟨xs, ds, by rw [List.getElem?_append_right (by rw [← h.ln]; omega), ← h.ln, e0]; rfl, hz, by rw [upd_ne hv]; exact hh, rd⟩
  · rw [List.nodup_cons]
    refine ⟨fun m => ?_, ?_⟩
    · rcases List.mem_append.mp m with m | m
      · exact hn.1 m
      · simp at m; exact hv m.symm
    · rw [List.nodup_append]
      refine ⟨hn.2, by simp, fun a ha b hb' e => ?_⟩
      simp at hb'
      subst hb' e
      exact hb ha
  · rcases List.mem_append.mp hb' with m | m
    · exact h.fr b m
    · simp at m; rw [m]; exact hf
theorem LInv.nown (h : LInv w K H1 D Z H bs ys) : NOwn w K Z H D bs (ys.map rowD) := by
  refine ⟨h.zD, h.hD, fun i b hb => ?_, by rw [List.length_map]; exact h.ln, h.nd⟩
  obtain ⟨xs, ds, h1, h2, h3, h4⟩ := h.it i b hb
  exact ⟨xs, ds, by rw [List.getElem?_map, h1]; rfl, h2, h3, h4⟩
theorem LInv.fresh {Z0 H0 Z1 : Hp} (h : LInv w K H1 D Z H bs ys) (x : Ext Z0 H0 Z1 H1) : ∀ b ∈ bs, H0 b = none := fun b hb => hnone x (h.fr b hb)
end
abbrev QN (X : Cx) (Z H : Hp) (Q : VK) (ys : List D) : Prop := ∀ a bs Z' H', Ext Z H Z' H' → H a = none → (∀ b ∈ bs, H b = none) → NOwn X.w X.K Z' H' a bs (ys.map rowD) → Q (.ref a) H'
section
variable {X : Cx} {W : WX} {tg iter elt : Expr} {ifs : List Expr} {scope : Scope} {own : List (Str × Nat)} {pos p : Pos} {Fi : EI} {A : EG} {T : ET} {F : EV} {js : List Nat}
theorem lc_readN (hi : Ei X W tg iter Fi) (hg : ∀ (s : Shared) (H : Hp) (C : Addr) (cl : List (Str × Addr)) (fp : List Addr), Eg (X.blk s H scope (compEnvC scope cl C X.env) fp) tg A js) (hjs : ∀ j ∈ js, j ∈ own.map (·.2))
    (ht : ∀ (s : Shared) (H : Hp) (C : Addr) (cl : List (Str × Addr)) (fp : List Addr), Ets (X.blk s H scope (compEnvC scope cl C X.env) fp) ifs T)
    (he : ∀ (s : Shared) (H : Hp) (C : Addr) (cl : List (Str × Addr)) (fp : List Addr), Eo (X.blk s H scope (compEnvC scope cl C X.env) fp) WF elt F)
    {Z0 H0 Z H : Hp} {σ : St} {ρ : Rho} {Q : VK} (r : Rep X.w X.K Z0 H0 Z H σ ρ) (q : Post X W Z H σ (eCompN Fi A T F (own.map (·.2)) ρ) (QN X Z H Q)) :
    tLc (PIat X tg iter) (fun v σ H Q => ∀ s H0 C cl fp, PGat (X.blk s H0 scope (compEnvC scope cl C X.env) fp) tg v σ H Q) (fun σ H Q => ∀ s H0 C cl fp, PTsat (X.blk s H0 scope (compEnvC scope cl C X.env) fp) ifs σ H Q)
      (fun σ H Q => ∀ s H0 C cl fp, PEat (X.blk s H0 scope (compEnvC scope cl C X.env) fp) elt σ H Q) (own.map (·.2)) σ H Q := by
  generalize hvs : own.map (·.2) = vs at *
  refine hi.go r (q.bind.mono fun ds q J Z1 H1 x1 io D hD => ?_)
  have q := q.bind
  unfold guardR at q
  split at q
  rotate_left
  · exact q.elim
  rename_i hfit
  have hfit := fits_le hfit
  have q : Post X W Z H σ (nx (compR (cStep A T (eLs F) (wipeR ρ vs)) ds) >>= fun ys => R.ok ys) (QN X Z H Q) := q
  cases hC : compR (cStep A T (eLs F) (wipeR ρ vs)) ds with
  | exc x => rw [hC] at q; exact q.elim
  | stuck => rw [hC] at q; exact q.elim
  | ok all =>
    rw [hC] at q
    have q : QN X Z H Q all := q
    refine ⟨fun i m Hc => m = ds.length - i ∧ i ≤ ds.length ∧ ∃ Zc bs ys, Ext Z1 H1 Zc Hc ∧ LInv X.w X.K H1 D Zc Hc bs ys ∧ bs.length ≤ i ∧ compR (cStep A T (eLs F) (wipeR ρ vs)) (ds.take i) = .ok ys,
      ⟨ds.length, by simp, Nat.zero_le _, Z1, [], [], Ext.newO x1.zh hD, .nil (zfree x1.zh hD) upd_same, Nat.le_refl _, rfl⟩, ?_⟩
    rintro i m Hc ⟨rfl, hle, Zc, bs, ys, xc, li, hal, hcomp⟩
    by_cases hlt : i < ds.length
    · have hd : ds[i]? = some ds[i] := by simp [hlt]
      generalize ds[i] = d at hd
      refine .inr ⟨io.go xc.zz xc.zh hd, fun H' => i + 1 ≤ ds.length ∧ ∃ Zc bs ys, Ext Z1 H1 Zc H' ∧ LInv X.w X.K H1 D Zc H' bs ys ∧ bs.length ≤ i + 1 ∧ compR (cStep A T (eLs F) (wipeR ρ vs)) (ds.take (i + 1)) = .ok ys,
        fun H' h => ⟨ds.length - (i + 1), by omega, rfl, h⟩, fun x H' hy s H00 C cl fp => ?_⟩
      obtain ⟨Z2, x2, rx⟩ := io.yld xc.zz xc.zh hd hy
      have x12 := xc.trans x2
      have r2 : Rep X.w X.K Z0 H0 Z2 H' (L2.wipe σ vs) (wipeR ρ vs) := (r.step (x1.trans x12)).wipe vs
      obtain ⟨zs, hzs⟩ := compR_take hC (i + 1)
      have hsn : compR (cStep A T (eLs F) (wipeR ρ vs)) (ds.take (i + 1)) = compR (cStep A T (eLs F) (wipeR ρ vs)) (ds.take i) >>= fun ys => cStep A T (eLs F) (wipeR ρ vs) d >>= fun o => .ok (ys ++ o.toList) := by
        rw [List.take_add_one, hd]
        exact compR_snoc _ _ _
      rw [hcomp, hzs] at hsn
      have hsn : R.ok zs = cStep A T (eLs F) (wipeR ρ vs) d >>= fun o => R.ok (ys ++ o.toList) := hsn
      have li2 := li.ext x2
      unfold cStep at hsn
      cases e1 : A d (wipeR ρ vs) with
      | exc x => rw [e1] at hsn; cases hsn
      | stuck => rw [e1] at hsn; cases hsn
      | ok ρ2 =>
        rw [e1, R.ok_bind] at hsn
        refine (hg s H00 C cl fp).go r2 rx ?_
        rw [e1]
        intro σ2 o2 rr2
        refine ⟨(o2.mono hjs).wipe.trans ?_, fun s' H0' C' cl' fp' => ?_⟩
        · apply List.ext_getElem?
          intro j
          rw [wipe_at, wipe_at, wipe_length]
          split <;> rfl
        cases e2 : T ρ2 with
        | exc x => rw [e2] at hsn; cases hsn
        | stuck => rw [e2] at hsn; cases hsn
        | ok b =>
          rw [e2, R.ok_bind] at hsn
          refine (ht s' H0' C' cl' fp').go rr2 ?_
          rw [e2]
          intro Z3 H3 x3
          cases b with
          | false =>
            rw [if_neg Bool.false_ne_true] at hsn ⊢
            have e3 : zs = ys := by
              have hsn : R.ok zs = R.ok (ys ++ []) := hsn
              cases hsn; simp
            subst e3
            exact ⟨hlt, Z3, bs, zs, x12.trans x3, li2.ext x3, Nat.le_succ_of_le hal, hzs⟩
          | true =>
            rw [if_pos rfl] at hsn ⊢
            intro s2 H02 C2 cl2 fp2
            unfold eLs at hsn
            cases e3 : F ρ2 with
            | exc x => rw [e3] at hsn; cases hsn
            | stuck => rw [e3] at hsn; cases hsn
            | ok y =>
              rw [e3] at hsn
              cases y with
              | list dsy =>
                have e4 : zs = ys ++ [PyData.list dsy] := by
                  have hsn : R.ok zs = R.ok (ys ++ [PyData.list dsy]) := hsn
                  cases hsn; rfl
                subst e4
                refine (he s2 H02 C2 cl2 fp2).go (rr2.step x3) ?_
                rw [e3]
                intro v Z4 H4 x4 hn4 ow
                have x34 := x3.trans x4
                have li4 := (li2.ext x3).ext x4
                have hnH1 : H1 v = none := hnone (x12.trans x3) hn4
                have hvD : v ≠ D := fun z => by
                  subst z
                  have := (li2.ext x3).hD
                  rw [hn4] at this
                  cases this
                have hvb : v ∉ bs := fun z => by
                  obtain ⟨u, hu⟩ := (li2.ext x3).there z
                  rw [hn4] at hu
                  cases hu
                cases ow with
                | lst hz hh rds =>
                  refine ⟨bs.map .ref, li4.hD, by rw [List.length_map]; exact Nat.lt_of_lt_of_le (Nat.lt_of_le_of_lt hal hlt) hfit, hlt, Z4, bs ++ [v], ys ++ [PyData.list dsy], ?_, ?_, by rw [List.length_append]; exact Nat.add_le_add_right hal 1, hzs⟩
                  · have xx := x12.trans x34
                    refine ⟨fun b u hb => ?_, xx.zz, fun b u hb => ?_, xx.nw⟩
                    · rw [upd_ne (ne_of_none hb hD)]; exact xx.hh b u hb
                    · rw [upd_ne (fun z => by rw [z, li4.zD] at hb; cases hb)]; exact xx.zh b u hb
                  · exact li4.snoc hvD hvb hnH1 hz hh rds
              | _ => cases hsn
    · have ei : i = ds.length := by omega
      subst ei
      refine .inl ⟨io.stop xc.zz xc.zh, ?_⟩
      rw [List.take_length, hC] at hcomp
      cases hcomp
      exact q D bs Zc Hc (x1.trans xc) (hnone x1 hD) (li.fresh x1) (li.nown)
def mN (F : EA) : Rho → R Sl := fun ρ => F ρ >>= fun ys => .ok (.n (ys.map rowD))
theorem em_compN (hc : X.calm = true) (hN : X.N.Nodup) (hi : Ei X W tg iter Fi) (ok : BlkOk X.N X.env.scope scope own) (hg : ∀ (s : Shared) (H : Hp) (C : Addr) (cl : List (Str × Addr)) (fp : List Addr), Eg (X.blk s H scope (compEnvC scope cl C X.env) fp) tg A js) (hjs : ∀ j ∈ js, j ∈ own.map (·.2))
    (ht : ∀ (s : Shared) (H : Hp) (C : Addr) (cl : List (Str × Addr)) (fp : List Addr), Ets (X.blk s H scope (compEnvC scope cl C X.env) fp) ifs T)
    (he : ∀ (s : Shared) (H : Hp) (C : Addr) (cl : List (Str × Addr)) (fp : List Addr), Eo (X.blk s H scope (compEnvC scope cl C X.env) fp) WF elt F) (hs : ∀ x, foldedSetIterable iter X.env x = pure x := by intro _; rfl) :
    Em X W (.ListComp elt [⟨tg, iter, ifs, 0⟩] scope pos) (mN (eCompN Fi A T F (own.map (·.2)))) := by
  refine ⟨fun {Z0 H0 Z H σ ρ Q} r q => toAt (pe_lc hc hN pi_at ok ?_ ?_ ?_ hs) (lc_readN hi hg hjs ht he r ?_)⟩
  · exact fun s H C cl fp => ⟨fun pins s' σ H' v u Q I rv h => (h s H C cl fp) pins s' u I rv⟩
  · exact fun s H C cl fp => ⟨fun pins s' σ H' Q I h => pts_at.run pins s' σ H' Q I (h s H C cl fp)⟩
  · exact fun s H C cl fp => ⟨fun pins s' σ H' Q I h => (h s H C cl fp) pins s' I⟩
  · refine q.bind.mono fun ys q a bs Z' H' x hn hb no => ?_
    exact q _ _ _ x ⟨a, bs, rfl, fun b m => by
      rcases List.mem_cons.mp m with rfl | m
      · exact hn
      · exact hb b m, no⟩
end
end PQ

/-! PQ.32: lists of own lists: rows[r][c], rows[r][c] = v, freezing -/
namespace PQ
open PySem PySem.Spec PyProof.Rows L2
section
variable {X : Cx} {W : WX} {Z0 H0 Z H : Hp} {σ : St} {ρ : Rho}
variable {st : Stmt} {e a b c ie ie2 tg : Expr} {pos p p1 p2 p3 : Pos} {F G I : EV} {T : ET} {S S' : ES}
def slN : Option Sl → R (List (List D))
  | some (.n rows) => .ok rows
  | _ => .stuck
/-- rows[r][c], rows the slot's own lists -/
def eNix (i : Nat) (F G : EV) : EV := fun ρ => slN ρ[i]? >>= fun rows => F ρ >>= asI >>= fun r => oR (ixN rows.length r) >>= fun j => G ρ >>= asI >>= fun k => oR (atI (rows.getD j []) k)
theorem NOwn.row {w : World} {K : PySem.W.Frag} {a : Addr} {bs : List Addr} {rows : List (List D)} (q : NOwn w K Z H a bs rows) {r : Int} {j : Nat} (h : ixN rows.length r = some j) : ∃ b xs, bs[j]? = some b ∧ atI (bs.map V.ref) r = some (.ref b) ∧ H b = some (.lst xs) ∧ RDs w K Z xs (rows.getD j []) := by
  have hj : j < rows.length := (ixN_seq h).2.1
  have hb : j < bs.length := by rw [q.ln]; exact hj
  obtain ⟨xs, ds, h1, h2, h3, h4⟩ := q.it j bs[j] (by simp [hb])
  refine ⟨bs[j], xs, by simp [hb], ?_, h3, ?_⟩
  · unfold atI
    rw [List.length_map, q.ln, h]
    show (bs.map V.ref)[j]? = _
    simp [hb]
  · rw [List.getD_eq_getElem?_getD, h1]
    exact h4
theorem NOwn.ext {a' : Addr} {bs : List Addr} {rows : List (List PQ.D)} (q : NOwn X.w X.K Z H a' bs rows) {Z' H' : Hp} (x : Ext Z H Z' H') : NOwn X.w X.K Z' H' a' bs rows := q.keep x.zz fun b hb => by
  obtain ⟨h1, xs, h2⟩ := q.mem hb
  exact ⟨x.nw b _ h1 h2, fun o e => x.hh _ _ e⟩
theorem ev_nix (i : Nat) {x : Str} (h : Ev X W ie F) (hg : Ev X W ie2 G) (hi : X.N[i]? = some x := by rfl) (hv : Vis X.env.scope x := by first | exact Or.inl rfl | exact Or.inr (Or.inl rfl) | exact Or.inr (Or.inr rfl)) (hd : (x == ("__debug__" : Str)) = false := by decide)
    (hcd : (x == ("__classdict__" : Str)) = false := by decide) (hs : PlainIx ie := by exact fun _ _ => rfl) (hs2 : PlainIx ie2 := by exact fun _ _ => rfl) : Ev X W (.Subscript (.Subscript (.Name x p) ie p1) ie2 p2) (eNix i F G) := by
  refine ⟨fun {Z0 H0 Z H σ ρ Q} r q => toAt (pe_ix ix_list (pe_ix ix_list (pe_var hi hv hd hcd) pe_at hs) pe_at hs2) ?_⟩
  unfold eNix at q
  cases hr : ρ[i]? with
  | none => rw [hr] at q; exact q.elim
  | some s =>
    rw [hr] at q
    cases s with
    | n rows =>
      obtain ⟨a, bs, hl, no, h0⟩ := r.getN hr
      refine ⟨_, hl, ?_⟩
      have q : Post X W Z H σ (F ρ >>= asI >>= fun r => oR (ixN rows.length r) >>= fun j => G ρ >>= asI >>= fun k => oR (atI (rows.getD j []) k)) (QV X Z H Q) := q
      refine h.go r (q.bind.bind.mono fun d q v Z1 H1 x1 r1 => ?_)
      cases d with
      | int k =>
        cases r1
        have q : Post X W Z H σ (oR (ixN rows.length k) >>= fun j => G ρ >>= asI >>= fun k => oR (atI (rows.getD j []) k)) (QV X Z H Q) := q
        cases hj : ixN rows.length k with
        | none => rw [hj] at q; exact q.elim
        | some j =>
          rw [hj] at q
          have q : Post X W Z H σ (G ρ >>= asI >>= fun k => oR (atI (rows.getD j []) k)) (QV X Z H Q) := q
          have no1 := no.ext x1
          obtain ⟨b, xs, hb, hat, hH, rds⟩ := no1.row hj
          refine ⟨_, _, _, _, rfl, rfl, .inl (.inl no1.ha), hat, ?_⟩
          refine hg.go (r.step x1) ((q.bind.bind.step x1).mono fun d q v Z2 H2 x2 r2 => ?_)
          cases d with
          | int m =>
            cases r2
            have q : Post X W Z H σ (oR (atI (rows.getD j []) m)) (QV X Z H Q) := q
            cases hm : atI (rows.getD j []) m with
            | none => rw [hm] at q; exact q.elim
            | some d =>
              rw [hm] at q
              have q : QV X Z H Q d := q
              obtain ⟨v, hv, rv⟩ := (rds.mono x2.zz).at hm
              exact ⟨_, _, _, _, rfl, rfl, .inl (.inl (x2.hh _ _ hH)), hv, q _ _ _ (x1.trans x2) rv⟩
          | _ => exact q.elim
      | _ => exact q.elim
    | _ => exact q.elim
/-- rows[r][c] = v -/
def sSetN (i : Nat) (F G I : EV) : ES := fun ρ => Out.of (I ρ) ρ fun d => Out.of (slN ρ[i]?) ρ fun rows => Out.of (F ρ >>= asI) ρ fun r => Out.of (oR (ixN rows.length r)) ρ fun j => Out.of (G ρ >>= asI) ρ fun k => Out.of (oR (ixN (rows.getD j []).length k)) ρ fun m => .nx (ρ.set i (.n (rows.set j ((rows.getD j []).set m d))))
theorem es_setN (i : Nat) {x : Str} (h : Ev X W ie F) (hg : Ev X W ie2 G) (he : Ev X W e I) (hi : X.N[i]? = some x := by rfl) (hv : Vis X.env.scope x := by first | exact Or.inl rfl | exact Or.inr (Or.inl rfl) | exact Or.inr (Or.inr rfl)) (hd : (x == ("__debug__" : Str)) = false := by decide)
    (hcd : (x == ("__classdict__" : Str)) = false := by decide) (hsi : PlainIx ie := by exact fun _ _ => rfl)
    (ha : ∀ v, assign (.Subscript (.Subscript (.Name x p) ie p1) ie2 p2) X.env v = (do
      let ov ← holding [v] (eval (.Subscript (.Name x p) ie p1) X.env)
      let iv ← holding [v, ov] (eval ie2 X.env)
      standAt p2
      holding [v, ov, iv] (setItem ov iv v)
      release [v, ov, iv] []) := by intro _; rfl)
    (hs : swapsWithSole [.Subscript (.Subscript (.Name x p) ie p1) ie2 p2] e pos.line X.env = pure false := by rfl) (hw : swappedStores [.Subscript (.Subscript (.Name x p) ie p1) ie2 p2] e X.env = pure none := by rfl)
    (h1 : (assignEach [.Subscript (.Subscript (.Name x p) ie p1) ie2 p2] X.env).map (·.2) = [assign (.Subscript (.Subscript (.Name x p) ie p1) ie2 p2) X.env] := by rfl) : Es X W (.Assign [.Subscript (.Subscript (.Name x p) ie p1) ie2 p2] e pos) (sSetN i F G I) := by
  refine ⟨fun {Z0 H0 Z H σ ρ En} r q => toAtS (ps_asg pe_at (pg_sub (pe_ix ix_list (pe_var hi hv hd hcd) pe_at hsi) pe_at set_list ha) hs hw h1) ?_⟩
  refine he.go r ((q.post r).mono fun d q v Z1 H1 x1 r1 => ?_)
  cases hr : ρ[i]? with
  | none => rw [hr] at q; exact q.elim
  | some s =>
    rw [hr] at q
    cases s with
    | n rows =>
      obtain ⟨a, bs, hl, no, h0⟩ := r.getN hr
      refine ⟨_, hl, ?_⟩
      have q : SPost X W Z0 H0 Z (Out.of (F ρ >>= asI) ρ fun r => Out.of (oR (ixN rows.length r)) ρ fun j => Out.of (G ρ >>= asI) ρ fun k => Out.of (oR (ixN (rows.getD j []).length k)) ρ fun m => .nx (ρ.set i (.n (rows.set j ((rows.getD j []).set m d))))) En := q
      refine h.go (r.step x1) (((q.post r).bind.step x1).mono fun dk q u Z2 H2 x2 r2 => ?_)
      cases dk with
      | int k =>
        cases r2
        have q : SPost X W Z0 H0 Z (Out.of (oR (ixN rows.length k)) ρ fun j => Out.of (G ρ >>= asI) ρ fun k => Out.of (oR (ixN (rows.getD j []).length k)) ρ fun m => .nx (ρ.set i (.n (rows.set j ((rows.getD j []).set m d))))) En := q
        cases hj : ixN rows.length k with
        | none => rw [hj] at q; exact q.elim
        | some j =>
          rw [hj] at q
          have q : SPost X W Z0 H0 Z (Out.of (G ρ >>= asI) ρ fun k => Out.of (oR (ixN (rows.getD j []).length k)) ρ fun m => .nx (ρ.set i (.n (rows.set j ((rows.getD j []).set m d))))) En := q
          have x12 := x1.trans x2
          have no2 := no.ext x12
          obtain ⟨b, xs, hb, hat, hH, rds⟩ := no2.row hj
          refine ⟨_, _, _, _, rfl, rfl, .inl (.inl no2.ha), hat, ?_⟩
          refine hg.go (r.step x12) (((q.post r).bind.step x12).mono fun dm q w Z3 H3 x3 r3 => ?_)
          cases dm with
          | int m =>
            cases r3
            have q : SPost X W Z0 H0 Z (Out.of (oR (ixN (rows.getD j []).length m)) ρ fun m => .nx (ρ.set i (.n (rows.set j ((rows.getD j []).set m d))))) En := q
            cases hm : ixN (rows.getD j []).length m with
            | none => rw [hm] at q; exact q.elim
            | some l =>
              rw [hm] at q
              have x13 := x12.trans x3
              have no3 := no.ext x13
              refine ⟨b, xs, m, l, rfl, rfl, x3.hh _ _ hH, by rw [rds.length]; exact hm, ?_⟩
              refine q _ _ _ (Rep.mutateN (r.step x13) hr hl no3 h0 hb ?_) x13.zz
              exact RDs.set (r1.mono (x2.zz.trans x3.zz)) l (rds.mono x3.zz)
          | _ => exact q.elim
      | _ => exact q.elim
    | _ => exact q.elim
end
end PQ

/-! PQ.33: lists of own lists are frozen -/
namespace PQ
open PySem PySem.Spec PyProof.Rows L2
section
variable {X : Cx} {W : WX} {Z0 H0 Z H : Hp} {σ : St} {ρ : Rho} {st : Stmt} {S : ES}
def rowsD (rows : List (List D)) : D := .list (rows.map .list)
theorem Rep.freezeN {w : World} {K : PySem.W.Frag} (r : Rep w K Z0 H0 Z H σ ρ) {i : Nat} {rows : List (List D)} (h : ρ[i]? = some (.n rows)) : ∃ Z', Rep w K Z0 H0 Z' H σ (ρ.set i (.f (rowsD rows))) ∧ Same Z Z' := by
  obtain ⟨a, bs, h1, q, h0⟩ := r.getN h
  let Z' : Hp := fun b => if b ∈ a :: bs then H b else Z b
  have zin : ∀ b, b ∈ a :: bs → Z' b = H b := fun b hb => if_pos hb
  have zout : ∀ b, b ∉ a :: bs → Z' b = Z b := fun b hb => if_neg hb
  have s1 : Same Z Z' := fun b u e => by
    by_cases hb : b ∈ a :: bs
    · rw [(q.mem hb).1] at e; cases e
    · rw [zout b hb]; exact e
  have s2 : Same Z' H := fun b u e => by
    by_cases hb : b ∈ a :: bs
    · rw [zin b hb] at e; exact e
    · rw [zout b hb] at e; exact r.zh b u e
  have rd : RD w K Z' (.ref a) (rowsD rows) := by
    refine .lst (xs := bs.map .ref) (by rw [zin a List.mem_cons_self]; exact q.ha) (RDs.of_get (by rw [List.length_map, List.length_map]; exact q.ln) fun j v d e1 e2 => ?_)
    rw [List.getElem?_map, Option.map_eq_some_iff] at e1 e2
    obtain ⟨b, hb, rfl⟩ := e1
    obtain ⟨ds, hds, rfl⟩ := e2
    obtain ⟨xs, ds', g1, g2, g3, g4⟩ := q.it j b hb
    rw [hds] at g1
    cases g1
    exact .lst (by rw [zin b (List.mem_cons_of_mem _ (List.mem_of_getElem? hb))]; exact g3) (g4.mono s1)
  have g := r.one (Z' := Z') (H' := H) i (some (.ref a)) (.f (rowsD rows)) ⟨r.ext.hh, r.ext.zz.trans s1, s2, fun b u hb1 hb2 => ?_⟩ s1 (fun j c s b hj e1 e2 ow => ?_) ⟨_, rfl, rd⟩ (fun _ _ _ _ _ _ _ _ o => o)
  · refine ⟨Z', ?_, s1⟩
    have e := set_self σ i none
    rw [h1] at e
    have e : σ.set i (some (.ref a)) = σ := e
    rwa [e] at g
  · have hb : b ∉ a :: bs := fun hb => by rw [h0 b hb] at hb2; cases hb2
    rw [zout b hb]
    exact r.ext.nw b u hb1 hb2
  · refine ⟨?_, fun _ e => e⟩
    have hb : b ∉ a :: bs := fun hb => r.dj j i c _ s _ b hj e1 h1 e2 h ow (q.owns.mpr hb)
    rw [zout b hb]
    exact (r.keepsO j c s b e1 e2 ow).1
def frzN (i : Nat) (ρ : Rho) : Rho := match ρ[i]? with
  | some (.n rows) => ρ.set i (.f (rowsD rows))
  | _ => ρ
theorem Rep.frzN (r : Rep X.w X.K Z0 H0 Z H σ ρ) (i : Nat) : ∃ Z', Rep X.w X.K Z0 H0 Z' H σ (PQ.frzN i ρ) ∧ Same Z Z' := by
  unfold PQ.frzN
  split
  · rename_i d h
    exact r.freezeN h
  · exact ⟨Z, r, Same.refl _⟩
def sFrzN (i : Nat) (S : ES) : ES := fun ρ => S (frzN i ρ)
theorem es_frzN (i : Nat) (h : Es X W st S) : Es X W st (sFrzN i S) := by
  refine ⟨fun {Z0 H0 Z H σ ρ D} r q => ?_⟩
  obtain ⟨Z', r', s⟩ := r.frzN i
  exact h.go r' (SPost.step q s)
end
section
variable {X : Cx} {W : WX} {Z0 H0 Z H : Hp} {σ : St} {ρ : Rho} {st : Stmt} {S : ES}
variable {tg iter : Expr} {Fi : EI} {A : EG} {T : ET} {js : List Nat}
theorem es_setLcN {i : Nat} {y : Str} {py : Pos} {elt : Expr} {ifs : List Expr} {scope : Scope} {own : List (Str × Nat)} {pos spos : Pos} {F : EV} (hc : X.calm = true) (hN : X.N.Nodup) (hy : X.N[i]? = some y) (hyl : X.env.scope.names.lookup y = some .local)
    (hsw : swapsWith (.ListComp elt [⟨tg, iter, ifs, 0⟩] scope pos) (some (.Name y py)) spos.line X.env = pure true) (hi : Ei X W tg iter Fi) (ok : BlkOk X.N X.env.scope scope own)
    (hg : ∀ (s : Shared) (H : Hp) (C : Addr) (cl : List (Str × Addr)) (fp : List Addr), Eg (X.blk s H scope (compEnvC scope cl C X.env) fp) tg A js) (hjs : ∀ j ∈ js, j ∈ own.map (·.2))
    (ht : ∀ (s : Shared) (H : Hp) (C : Addr) (cl : List (Str × Addr)) (fp : List Addr), Ets (X.blk s H scope (compEnvC scope cl C X.env) fp) ifs T)
    (he : ∀ (s : Shared) (H : Hp) (C : Addr) (cl : List (Str × Addr)) (fp : List Addr), Eo (X.blk s H scope (compEnvC scope cl C X.env) fp) WF elt F) (hs : ∀ x, foldedSetIterable iter X.env x = pure x := by intro _; rfl) :
    Es X W (.Assign [.Name y py] (.ListComp elt [⟨tg, iter, ifs, 0⟩] scope pos) spos) (sSet i (mN (eCompN Fi A T F (own.map (·.2))))) := by
  refine ⟨fun {Z0 H0 Z H σ ρ En} r q => toAtS (ps_setLc (g := fun v σ H Q => ∀ s H0 C cl fp, PGat (X.blk s H0 scope (compEnvC scope cl C X.env) fp) tg v σ H Q)
    (tt := fun σ H Q => ∀ s H0 C cl fp, PTsat (X.blk s H0 scope (compEnvC scope cl C X.env) fp) ifs σ H Q)
    (te := fun σ H Q => ∀ s H0 C cl fp, PEat (X.blk s H0 scope (compEnvC scope cl C X.env) fp) elt σ H Q) hc hN hy hyl hsw pi_at ok ?_ ?_ ?_ hs) ?_⟩
  · exact fun s H C cl fp => ⟨fun pins s' σ H' v u Q I rv h => (h s H C cl fp) pins s' u I rv⟩
  · exact fun s H C cl fp => ⟨fun pins s' σ H' Q I h => pts_at.run pins s' σ H' Q I (h s H C cl fp)⟩
  · exact fun s H C cl fp => ⟨fun pins s' σ H' Q I h => (h s H C cl fp) pins s' I⟩
  · refine lc_readN hi hg hjs ht he r (Q := fun x H1 => gName i x σ H1 En.nx) ?_
    have q := q.post r
    refine q.bind.mono fun ys hd a bs Z' H' x hn hb no => ?_
    exact hd _ _ _ (r.put x i ⟨a, bs, rfl, fun b m => by
      rcases List.mem_cons.mp m with rfl | m
      · exact hn
      · exact hb b m, no⟩) x.zz
end
end PQ

/-! PQ.34: sorted(d), list(d), len(d) of a dict -/
namespace PQ
open PySem PySem.Spec PyProof.Rows L2
open PySem.W (alike alikeAll dataLt rcLt_alike AllAlike Sortable SortsAt EachIs copyHeap sortingHeap dataLe dataKind sortVals)

section
variable {prog : Program} {w : World} {A : Around} {E : Value → Shared → Prop} {s : Shared}
/-- what collect(v) leaves, in any heap that keeps what was there -/
def CollectsK (prog : Program) (w : World) (s : Shared) (v : Value) (vs : List Value) : Prop := ∀ (A : Around) (E : Value → Shared → Prop) (Q : List Value → Shared → Prop), A.handled = none →
  (∀ (h' : Heap) (tk : Nat), (∀ b o, s.heap.get? b = some o → h'.get? b = some o) → Q vs { s with heap := h', toks := tk }) → wpAny (model prog w) A (collect v) Q E s
theorem keys_of {es : Array DictEntry} {acc : Array Value} (it : PySem.ItemsOf (fun i v => ∃ en : DictEntry, es[i]? = some en ∧ v = en.key) acc es.size) : acc.toList = es.toList.map (·.key) := by
  have hl : acc.toList.length = es.size := by rw [Array.length_toList, it.1]
  apply List.ext_getElem?
  intro j
  rw [List.getElem?_map]
  cases hj : acc.toList[j]? with
  | none =>
    have h1 := List.getElem?_eq_none_iff.mp hj
    rw [List.getElem?_eq_none (by rw [Array.length_toList]; omega)]
    rfl
  | some v =>
    obtain ⟨en, hen, hv⟩ := it.2 j v (by rw [← Array.getElem?_toList]; exact hj)
    rw [Array.getElem?_toList, hen, hv]
    rfl
theorem collects_dict {a : Addr} {o : Obj} {es : Array DictEntry} {ep : Nat} (lo : (a == sysModules) = false) (hg : s.heap.get? a = some o) (hx : o.ExactDict) (hd : o.data = .dict es ep) (hz : es.size ≤ sizeLine) : CollectsK prog w s (.ref a) (es.toList.map (·.key)) :=
  fun A E Q hh h => PySem.W.kdu_collect (kdl_raw lo hx hd) hh hg hz fun h' tk acc hk it => by
    rw [keys_of it]
    exact h h' tk hk
theorem sorted_dsK {v : Value} {vs : List Value} {ds : List D} {R : Value → D → Prop} {Q : Value → Shared → Prop} (hh : A.handled = none) (hcol : CollectsK prog w s v vs) (e : EachIs R vs ds) (er : EachIs (fun v d => ∃ as, Reads s.heap v d as) vs ds) (hal : AllAlike ds) (hk : Sortable ds ∨ (ds.length ≤ 1 ∧ ∀ d ∈ ds, d ≠ .none)) (hL : ds.length ≤ sizeLine)
    (hu : ∀ d, d ∈ ds → A.units + 2 + d.depth < cLine)
    (h : ∀ (out : List Value) (h' : Heap) (tk : Nat), (∀ b o, s.heap.get? b = some o → h'.get? b = some o) → out.length = ds.length → EachIs R out (ds.mergeSort (dataLe false id)) → Q (.ref h'.objs.size) { s with heap := sortedHeap (h'.push (seqObj "list" vs.toArray 0)) h'.objs.size vs out.toArray, toks := tk }) :
    wpAny (model prog w) A (call (.builtin "sorted") [v]) Q E s := by
  have hL' : vs.length ≤ sizeLine := by rw [e.length]; exact hL
  refine PySem.Calls.call_function_entry kind_sorted plain_sorted entry_sorted (args_sorted1 _) ?_
  unfold Builtin.«sorted»
  refine wpAny_bind (m := checkCount "sorted" 1 1 _) (wpAny_pure ?_)
  refine wpAny_bind (hcol _ _ _ hh fun h' tk kp => ?_)
  refine wpAny_bind (wpAny_newList ?_ hL')
  have hoL : (h'.push (seqObj "list" vs.toArray 0)).get? h'.objs.size = some (seqObj "list" vs.toArray 0) := Heap.get?_push_size _ rfl
  show wpAny _ _ _ _ _ { s with heap := h'.push (seqObj "list" vs.toArray 0), toks := tk }
  have er2 : EachIs (fun v d => ∃ as, Reads (sortingHeap (h'.push (seqObj "list" vs.toArray 0)) h'.objs.size vs) v d as) vs ds := er.mono fun _ _ ⟨as, r⟩ => ⟨as, Reads.keeps (fun b o eb => PySem.W.sortingHeap_old (Nat.ne_of_lt (Heap.lt_size (kp b o eb))) (Heap.get?_push_of_some _ (kp b o eb))) r⟩
  have S : SortsAt prog w A.in1.in1 { s with heap := sortingHeap (h'.push (seqObj "list" vs.toArray 0)) h'.objs.size vs, toks := tk } (dataKind (sortingHeap (h'.push (seqObj "list" vs.toArray 0)) h'.objs.size vs) ds) vs :=
    SortsAt.keepU (s := { s with heap := sortingHeap (h'.push (seqObj "list" vs.toArray 0)) h'.objs.size vs, toks := tk }) er2 hal hk fun d hd => hu d hd
  refine wpAny_bind (wpAny_holding (wpAny_call_entry_kw slot_list_sort ⟨_, hoL, rfl⟩ entry_list_sort ?body (args_list_sort _)))
  case body =>
    show wpAny (model prog w) A.in1.in1 (Builtin.«list.sort» ⟨[.ref h'.objs.size], []⟩) _ _ _
    refine PySem.W.list_sort_vals (s := { s with heap := h'.push (seqObj "list" vs.toArray 0), toks := tk }) hoL S hL' ⟨_, rfl, wpAny_pure ⟨_, rfl, ?_⟩⟩
    have hm : ds.map id = ds := List.map_id ds
    have out := PySem.W.sortVals_data (h' := sortingHeap (h'.push (seqObj "list" vs.toArray 0)) h'.objs.size vs) (enc := id) false e er2 (by rw [hm]; exact hal)
    rw [hm] at out
    exact h _ h' tk kp (by rw [PySem.W.sortVals_length false rfl]; exact e.length) out
end
theorem rde_keys {w : World} {K : PySem.W.Frag} {Z : Hp} : ∀ {l : List DictEntry} {kvs : List (D × D)}, RDE w K Z l kvs → ∃ xs, Vals xs (l.map (·.key)) ∧ RDs w K Z xs (kvs.map (·.1))
  | _, _, .nil => ⟨[], .nil, .nil⟩
  | _, _, .cons h1 h2 h3 h4 r1 r2 t => by
    obtain ⟨xs, p1, p2⟩ := rde_keys t
    exact ⟨_ :: xs, .cons h3 p1, .cons r1 p2⟩
def keysD (kvs : List (D × D)) : List D := kvs.map (·.1)
def dSortedD : List D → R D
  | [.dict kvs] => guardR (sortOk (keysD kvs)) (.list (sortL (keysD kvs)))
  | ds => dSorted ds
theorem cl_sortedD (x : List D) : (dSortedD x).clean := by
  unfold dSortedD
  split
  · exact clean_guard _ _
  · exact cl_sorted x
def dListD : List D → R D
  | [.dict kvs] => .ok (.list (keysD kvs))
  | [.str z] => guardR (fits z.length) (.list (signs z))
  | ds => dList ds
theorem cl_listD (x : List D) : (dListD x).clean := by
  unfold dListD
  split
  · trivial
  · exact clean_guard _ _
  · exact cl_list x
def dLenD : List D → R D
  | [.dict kvs] => guardR (okKs (keysD kvs)) (.int kvs.length)
  | ds => dLen ds
theorem cl_lenD (x : List D) : (dLenD x).clean := by
  unfold dLenD
  split
  · exact clean_guard _ _
  · exact cl_len x
section
variable {X : Cx} {W : WX} {a b c e : Expr} {es rest : List Expr} {pos p : Pos} {F G I : EV} {T U : ET} {Fs : EA}
def rDict (w : World) (K : PySem.W.Frag) (ok : List D → Prop) (R : Hp → List (D × D) → Hp → VK → Prop) : List V → Hp → VK → Prop := fun vs H Q => ∃ (Z : Hp) (v : V) (kvs : List (D × D)), vs = [v] ∧ Same Z H ∧ RD w K Z v (.dict kvs) ∧ ok (keysD kvs) ∧ R Z kvs H Q
def rSortDD (X : Cx) : List V → Hp → VK → Prop := rDict X.w X.K (fun ds => sortOk ds = true) fun Z kvs H Q => ∀ ys l, RDs X.w X.K Z ys (sortL (keysD kvs)) → H l = none → Q (.ref l) (upd H l (.lst ys))
theorem cr_sortedDD (hc : X.calm = true) (hu : HasRoom X) : CallR X (.builtin "sorted") (rSortDD X) := by
  intro pins s σ H vs us Q I r h
  obtain ⟨Z, v, kvs, rfl, sz, rd, ok, q⟩ := h
  obtain ⟨a, rfl, da⟩ := rd_dict I sz rd
  obtain ⟨k1, k2, k3, k4, k5⟩ := sortOk_of ok
  rw [Vals.ref1 r]
  obtain ⟨o, es, ep, g1, g2, g3, g4⟩ := da.at'
  obtain ⟨xs, rv, rdk⟩ := rde_keys g4
  have hlen : es.size ≤ sizeLine := by
    have e1 : xs.length = es.size := (Paired.length rv).trans (by rw [List.length_map, Array.length_toList])
    have e2 : xs.length = (keysD kvs).length := rdk.length
    rw [← e1, e2]; exact k1
  refine sorted_dsK (A := X.A) (I.ok.hd hc) (collects_dict da.sys g1 g2 g3 hlen) (each_rd rv rdk) (each_reads I rv ((rdk.mono sz).dp (plain_noDicts _ k2))) k3 k4 k1 (fun d hd => ?_) fun out h' tk kp h1 h2 => ?_
  · have := depth_mem hd
    have hu : X.A.units + 100 < cLine := hu
    show X.A.units + 2 + d.depth < cLine
    have : d.depth ≤ 60 := Nat.le_trans this k5
    omega
  · obtain ⟨ys, r2, rd2⟩ := rd_each h2
    have I1 : Inv X pins σ H { s with heap := h', toks := tk } := I.kept kp
    have hoL : (h'.push (seqObj "list" (es.toList.map (·.key)).toArray 0)).get? h'.objs.size = some (seqObj "list" (es.toList.map (·.key)).toArray 0) := Heap.get?_push_size _ rfl
    obtain ⟨e', he'⟩ := sortedHeap_at (vs := es.toList.map (·.key)) (out := out.toArray) hoL
    have hl : ys.length ≤ sizeLine := by rw [r2.length, h1]; exact k1
    refine ⟨.ref _, upd H h'.objs.size (.lst ys), I1.laid (t' := tk) (fun b u eb => ?_) (Nat.le_refl _) ⟨hl, out, e', r2, he'⟩, rfl, q _ _ rd2 (I1.hok.fresh (Nat.le_refl _))⟩
    have hb : b < h'.objs.size := Heap.lt_size eb
    rw [sortedHeap_old (Nat.ne_of_lt hb) (by rw [size_push']; exact Nat.lt_succ_of_lt hb)]
    exact Heap.get?_push_of_some _ eb
theorem co_sortedD : CaO X (fun xs H Q => rSortDD X xs H Q ∨ rSortD X.w X.K xs H Q) dSortedD := by
  intro Z H xs ds Q s r h
  unfold dSortedD at h
  split at h
  · obtain ⟨v, rfl, r0⟩ := rds1 r
    obtain ⟨ok, h⟩ := h.guard
    refine .inl ⟨Z, v, _, rfl, s, r0, ok, fun ys l rd hl => ?_⟩
    exact h l Z _ (Ext.newO s hl) hl (.lst (zfree s hl) upd_same rd)
  · exact .inr (co_sorted Z H xs ds Q s r h)
theorem eo_sortedD (hc : X.calm = true) (hu : HasRoom X) (hm : X.mg "sorted" = none) (ha : Ea X W [a] Fs) (hg : Gl X "sorted" := by rfl) : Eo X W (.Call (.Name "sorted" p) [a] [] pos) (eA dSortedD Fs) :=
  eo_A (fun h => pe_callB ((cr_sortedDD hc hu).or (cr_sortedD hu)) hg hm boot_sorted h (he := ha.se _ _ rfl) (hpl := ha.plt _ _ rfl _)) co_sortedD cl_sortedD ha
/-! ### list(d) -/
def rListDD (X : Cx) : List V → Hp → VK → Prop := rDict X.w X.K (fun ds => True) fun Z kvs H Q => ∀ ys l, RDs X.w X.K Z ys (keysD kvs) → H l = none → Q (.ref l) (upd H l (.lst ys))
theorem cr_listDD (hc : X.calm = true) : CallR X (.type "list") (rListDD X) := by
  intro pins s σ H vs us Q I r h
  obtain ⟨Z, v, kvs, rfl, sz, rd, ok, q⟩ := h
  obtain ⟨a, rfl, da⟩ := rd_dict I sz rd
  rw [Vals.ref1 r]
  have hz := da.len
  obtain ⟨o, es, ep, g1, g2, g3, g4⟩ := da.at'
  obtain ⟨xs, rv, rdk⟩ := rde_keys g4
  have e1 : xs.length = es.size := (Paired.length rv).trans (by rw [List.length_map, Array.length_toList])
  have e2 : xs.length = kvs.length := rdk.length.trans (List.length_map ..)
  refine PySem.W.kdl_call (kdl_raw da.sys g2 g3) (I.ok.hd hc) g1 (by omega) fun h' tk acc' c' kp e it => ?_
  have ea := keys_of it
  refine ⟨.ref s.heap.objs.size, _, I.laid (t' := tk) (o := .lst xs) kp (Nat.le_refl _) ?_, rfl, q _ _ rdk (I.hok.fresh (Nat.le_refl _))⟩
  exact ⟨by omega, acc'.toList, c', by rw [ea]; exact rv, by rw [Array.toArray_toList]; exact e⟩
theorem rds_signs {w : World} {K : PySem.W.Frag} {Z : Hp} : ∀ l : List Nat, RDs w K Z (l.map fun c => .str ⟨#[c]⟩) (l.map fun c => .str ⟨#[c]⟩)
  | [] => .nil
  | _ :: l => .cons (.str _) (rds_signs l)
def rListStr : List V → Hp → VK → Prop := fun vs H Q => ∃ z, vs = [.str z] ∧ z.length ≤ sizeLine ∧ ∀ l, H l = none → Q (.ref l) (upd H l (.lst (signsV z)))
theorem signs_vals {z : Str} {acc : Array Value} (h : PySem.ItemsOf (SignAt z) acc z.cps.size) : Vals (signsV z) acc.toList := by
  have key : ∀ (l : List Nat) (vs : List Value), vs.length = l.length → (∀ (j : Nat) (v : Value), vs[j]? = some v → ∃ c u, l[j]? = some c ∧ v = .str ⟨#[c]⟩ u) → Vals (l.map fun c => V.str ⟨#[c]⟩) vs := by
    intro l
    induction l with
    | nil => intro vs h _; cases vs with | nil => exact .nil | cons => simp at h
    | cons c l ih =>
      intro vs h f
      cases vs with
      | nil => simp at h
      | cons v vs =>
        obtain ⟨c', u, h1, h2⟩ := f 0 v rfl
        cases h1
        exact .cons ⟨u, h2⟩ (ih vs (by simpa using h) fun j v' hj => f (j + 1) v' hj)
  exact key _ _ (by rw [Array.length_toList, h.1, Array.length_toList]) fun j v hv => by
    obtain ⟨c, u, h1, h2⟩ := h.2 j v (by rw [← Array.getElem?_toList]; exact hv)
    exact ⟨c, u, by rw [Array.getElem?_toList]; exact h1, h2⟩
theorem cr_listStr (hc : X.calm = true) : CallR X (.type "list") rListStr := by
  intro pins s σ H vs us Q I r h
  obtain ⟨z, rfl, hz, q⟩ := h
  obtain ⟨u, rfl, rx⟩ := vals1 r
  obtain ⟨t, rfl⟩ := (show ∃ t, u = Value.str z t from rx)
  refine call_list_str (I.ok.hd hc) z t (hn := hz) fun h' tk acc' c' kp e it => ?_
  refine ⟨.ref s.heap.objs.size, _, I.laid (t' := tk) (o := .lst (signsV z)) kp (Nat.le_refl _) ?_, rfl, q _ (I.hok.fresh (Nat.le_refl _))⟩
  refine ⟨?_, acc'.toList, c', signs_vals it, by rw [Array.toArray_toList]; exact e⟩
  unfold signsV
  rw [List.length_map, Array.length_toList]
  exact hz
theorem co_listD : CaO X (fun xs H Q => rListDD X xs H Q ∨ rListOf X.K xs H Q ∨ rListStr xs H Q) dListD := by
  intro Z H xs ds Q s r h
  unfold dListD at h
  split at h
  · obtain ⟨v, rfl, r0⟩ := rds1 r
    refine .inl ⟨Z, v, _, rfl, s, r0, trivial, fun ys l rd hl => ?_⟩
    exact h l Z _ (Ext.newO s hl) hl (.lst (zfree s hl) upd_same rd)
  · obtain ⟨v, rfl, r0⟩ := rds1 r
    obtain ⟨hf, h⟩ := h.guard
    cases r0
    exact .inr (.inr ⟨_, rfl, fits_le hf, fun l hl => h l Z _ (Ext.newO s hl) hl (.lst (zfree s hl) upd_same (rds_signs _))⟩)
  · exact .inr (.inl (co_list Z H xs ds Q s r h))
theorem eo_listD (hc : X.calm = true) (hm : X.mg "list" = none) (ha : Ea X W [a] Fs) (hg : Gl X "list" := by rfl) : Eo X W (.Call (.Name "list" p) [a] [] pos) (eA dListD Fs) :=
  eo_A (fun h => pe_callTy ((cr_listDD hc).or (call_list_of.or (cr_listStr hc))) hg hm boot_list h (he := ha.se _ _ rfl) (hpl := ha.plt _ _ rfl _)) co_listD cl_listD ha
/-! ### len(d) -/
def rLenDD (X : Cx) : List V → Hp → VK → Prop := rDict X.w X.K (fun ds => okKs ds = true) fun Z kvs H Q => Q (.int kvs.length) H
theorem cr_lenDD : CallR X (.builtin "len") (rLenDD X) := by
  intro pins s σ H vs us Q I r h
  obtain ⟨Z, v, kvs, rfl, sz, rd, ok, q⟩ := h
  obtain ⟨a, rfl, da⟩ := rd_dict I sz rd
  rw [Vals.ref1 r]
  have hz := da.len
  rw [sizeLine_eq] at hz
  unfold okKs keysD at ok
  rw [Bool.or_eq_true, List.all_eq_true, List.all_eq_true] at ok
  rcases ok with f | f
  · obtain ⟨vs, dd, rel⟩ := da.flat (P := X.prog) fun p hp => f _ (List.mem_map_of_mem hp)
    have hl : kvs.length = vs.length := Paired.length rel
    refine call_len_dict da.sys dd (by omega) ⟨.int kvs.length, H, I.tok _, ?_, q⟩
    rw [hl]; exact ⟨_, rfl⟩
  · obtain ⟨vs, dd, rel⟩ := da.tup I sz fun p hp => f _ (List.mem_map_of_mem hp)
    have hl : kvs.length = vs.length := Paired.length rel
    refine call_len_dictH da.sys dd (by omega) ⟨.int kvs.length, H, I.tok _, ?_, q⟩
    rw [hl]; exact ⟨_, rfl⟩
theorem cd_lenD : CaD X (fun xs H Q => rLenDD X xs H Q ∨ rLenAll X.K xs H Q) dLenD := by
  intro Z H xs ds Q s r h
  unfold dLenD at h
  split at h
  · obtain ⟨v, rfl, r0⟩ := rds1 r
    obtain ⟨ok, h⟩ := h.guard
    exact .inl ⟨Z, v, _, rfl, s, r0, ok, h _ _ _ (Ext.refl s) (.int _)⟩
  · exact .inr (cd_len Z H xs ds Q s r h)
theorem ev_lenD (hm : X.mg "len" = none) (ha : Ea X W [a] Fs) (hg : Gl X "len" := by rfl) : Ev X W (.Call (.Name "len" p) [a] [] pos) (eA dLenD Fs) :=
  ev_A (fun h => pe_callB (cr_lenDD.or (call_len_seq.or call_len_str)) hg hm PySem.boot_len h (he := ha.se _ _ rfl) (hpl := ha.plt _ _ rfl _)) cd_lenD cl_lenD ha
/-! ### membership and is, as tests -/
theorem et_inD (hu : HasRoom X) (ha : Ev X W a F) (hb : Ev X W b G) (hm : behindInMarks .In b = false := by rfl) : Et X W (.Compare a [.In] [b] pos) (tV (e2 dInD F G)) := et_2 (OpR.or (op_inP hu) (op_dIn hu false)) od_inD cl_inD ha hb hm
theorem et_notInD (hu : HasRoom X) (ha : Ev X W a F) (hb : Ev X W b G) (hm : behindInMarks .NotIn b = false := by rfl) : Et X W (.Compare a [.NotIn] [b] pos) (tV (e2 dNotInD F G)) := et_2 (OpR.or (op_notInP hu) (op_dIn hu true)) od_notInD cl_notInD ha hb hm
theorem et_isB (ha : Ev X W a F) (hb : Ev X W b G) (hm : behindInMarks .Is b = false := by rfl) : Et X W (.Compare a [.Is] [b] pos) (tV (e2 dIsB F G)) := et_2 op_isBl od_isB cl_isB ha hb hm
theorem et_notB (ha : Ev X W a F) (hb : Ev X W b G) (hm : behindInMarks .IsNot b = false := by rfl) : Et X W (.Compare a [.IsNot] [b] pos) (tV (e2 dNotB F G)) := et_2 op_notBl od_notB cl_notB ha hb hm
end
end PQ

/-! PQ.35: how the denotations of Q22 to Q34 compute -/
namespace PQ
open PySem PySem.Spec PyProof.Rows L2
open PySem.W (alike alikeAll dataLt dataLe)

@[simp] theorem x_ixDL (ds : List D) (i : Int) : dIxD (.list ds) (.int i) = oR (atI ds i) := x_ixL ds i
@[simp] theorem x_ixDT (ds : List D) (i : Int) : dIxD (.tuple ds) (.int i) = oR (atI ds i) := x_ixT ds i
theorem x_ixDS (z : Str) (i : Int) : dIxD (.str z) (.int i) = (oR (atI z.cps.toList i) >>= fun c => guardR (fits z.length) (PyData.str ⟨#[c]⟩)) := x_ixS z i
theorem x_ixDD {kvs : List (D × D)} {k d : D} (h : okK kvs k = true) (h2 : dFind kvs k = some d) : dIxD (.dict kvs) k = .ok d := by
  show (match okK kvs k, dFind kvs k with
    | true, some d => R.ok d
    | _, _ => .stuck) = _
  rw [h, h2]
@[simp] theorem x_inDD (kvs : List (D × D)) (k : D) : dInD k (.dict kvs) = guardR (okK kvs k) (.bool (dFind kvs k).isSome) := by unfold dInD; rfl
@[simp] theorem x_notInDD (kvs : List (D × D)) (k : D) : dNotInD k (.dict kvs) = guardR (okK kvs k) (.bool (!(dFind kvs k).isSome)) := by unfold dNotInD; rfl
@[simp] theorem x_inDS (c : Nat) (z : Str) : dInD (.str ⟨#[c]⟩) (.str z) = .ok (.bool (decide (c ∈ z.cps.toList))) := id rfl
@[simp] theorem x_notInDS (c : Nat) (z : Str) : dNotInD (.str ⟨#[c]⟩) (.str z) = .ok (.bool (!decide (c ∈ z.cps.toList))) := id rfl
theorem x_inDT (d : D) (xs : List D) (hd : tyName d ≠ "dict") : dInD d (.tuple xs) = guardR (inOk xs d) (.bool (xs.any fun y => PyData.eqv y d)) := by
  cases d <;> first | rfl | exact absurd rfl hd
@[simp] theorem x_notInT (d : D) (xs : List D) : dNotInD d (.tuple xs) = dNotIn d (.tuple xs) := by cases d <;> rfl
@[simp] theorem x_inT (d : D) (xs : List D) : dInD d (.tuple xs) = dIn d (.tuple xs) := by cases d <;> rfl
@[simp] theorem x_notInL (d : D) (xs : List D) : dNotInD d (.list xs) = dNotIn d (.list xs) := by cases d <;> rfl
@[simp] theorem x_inL (d : D) (xs : List D) : dInD d (.list xs) = dIn d (.list xs) := by cases d <;> rfl
@[simp] theorem x_dLenDL (ds : List D) : dLenD [.list ds] = .ok (.int ds.length) := id rfl
@[simp] theorem x_dLenDT (ds : List D) : dLenD [.tuple ds] = .ok (.int ds.length) := id rfl
@[simp] theorem x_dLenDS (z : Str) : dLenD [.str z] = guardR (fits z.length) (.int z.length) := id rfl
@[simp] theorem x_dLenDD (kvs : List (D × D)) : dLenD [.dict kvs] = guardR (okKs (keysD kvs)) (.int kvs.length) := id rfl
@[simp] theorem x_dListDL (ds : List D) : dListD [.list ds] = .ok (.list ds) := id rfl
@[simp] theorem x_dListDT (ds : List D) : dListD [.tuple ds] = .ok (.list ds) := id rfl
@[simp] theorem x_dListDS (z : Str) : dListD [.str z] = guardR (fits z.length) (.list (signs z)) := id rfl
@[simp] theorem x_dListDD (kvs : List (D × D)) : dListD [.dict kvs] = .ok (.list (keysD kvs)) := id rfl
@[simp] theorem x_dSortDD (kvs : List (D × D)) : dSortedD [.dict kvs] = guardR (sortOk (keysD kvs)) (.list (sortL (keysD kvs))) := id rfl
@[simp] theorem x_dSortDL (ds : List D) : dSortedD [.list ds] = guardR (sortOk ds) (.list (sortL ds)) := id rfl
@[simp] theorem x_dSortDT (ds : List D) : dSortedD [.tuple ds] = guardR (sortOk ds) (.list (sortL ds)) := id rfl
@[simp] theorem x_dSortL (ds : List D) : dSorted [.list ds] = guardR (sortOk ds) (.list (sortL ds)) := id rfl
@[simp] theorem x_dTupleL (ds : List D) : dTuple [.list ds] = .ok (.tuple ds) := id rfl
@[simp] theorem x_dTupleT (ds : List D) : dTuple [.tuple ds] = .ok (.tuple ds) := id rfl
@[simp] theorem x_eM (Ty : String) (f : D → List D → R D) (F : EV) (Fs : EA) (ρ : Rho) : eM Ty f F Fs ρ = (F ρ >>= fun d => if tyName d = Ty then Fs ρ >>= fun ds => f d ds else .stuck) := id rfl
@[simp] theorem x_dict0 (ρ : Rho) : eDict0 ρ = .ok (.dict []) := id rfl
@[simp] theorem x_disp1 (F G : EV) (ρ : Rho) : eDisp [(F, G)] ρ = (F ρ >>= fun k => G ρ >>= fun v => guardR (okKs [k]) (PyData.dict [(k, v)])) := by
  show (evPs [(F, G)] ρ >>= _) = _
  unfold evPs
  cases F ρ with
  | ok k =>
    cases G ρ with
    | ok v => rfl
    | exc x => rfl
    | stuck => rfl
  | exc x => rfl
  | stuck => rfl
@[simp] theorem x_slDct (kvs : List (D × D)) : slDct (some (.o (.dict kvs))) = .ok kvs := id rfl
@[simp] theorem x_sSetD (i : Nat) (F G : EV) (ρ : Rho) : sSetD i F G ρ = Out.of (F ρ) ρ fun d => Out.of (slDct ρ[i]?) ρ fun kvs => Out.of (G ρ) ρ fun k => Out.of (guardR (okK kvs k && fits (kvs.length + 1)) kvs) ρ fun _ => .nx (ρ.set i (.o (.dict (dPutL kvs k d)))) := id rfl
@[simp] theorem x_sPar3 (i j l : Nat) (F G I : Rho → R Sl) (ρ : Rho) : sPar3 i j l F G I ρ = Out.of (F ρ) ρ fun s => Out.of (G ρ) ρ fun t => Out.of (I ρ) ρ fun u => .nx (((ρ.set i s).set j t).set l u) := id rfl
@[simp] theorem x_slN (rows : List (List D)) : slN (some (.n rows)) = .ok rows := id rfl
@[simp] theorem x_eNix (i : Nat) (F G : EV) (ρ : Rho) : eNix i F G ρ = (slN ρ[i]? >>= fun rows => F ρ >>= asI >>= fun r => oR (ixN rows.length r) >>= fun j => G ρ >>= asI >>= fun k => oR (atI (rows.getD j []) k)) := id rfl
@[simp] theorem x_sSetN (i : Nat) (F G I : EV) (ρ : Rho) : sSetN i F G I ρ = Out.of (I ρ) ρ fun d => Out.of (slN ρ[i]?) ρ fun rows => Out.of (F ρ >>= asI) ρ fun r => Out.of (oR (ixN rows.length r)) ρ fun j => Out.of (G ρ >>= asI) ρ fun k => Out.of (oR (ixN (rows.getD j []).length k)) ρ fun m => .nx (ρ.set i (.n (rows.set j ((rows.getD j []).set m d)))) := id rfl
@[simp] theorem x_sFrzN (i : Nat) (S : ES) (ρ : Rho) : sFrzN i S ρ = S (frzN i ρ) := id rfl
theorem frzN_n {i : Nat} {ρ : Rho} {rows : List (List D)} (h : ρ[i]? = some (.n rows)) : frzN i ρ = ρ.set i (.f (rowsD rows)) := by unfold frzN; rw [h]
@[simp] theorem x_mN (F : EA) (ρ : Rho) : mN F ρ = (F ρ >>= fun ys => .ok (.n (ys.map rowD))) := id rfl
@[simp] theorem x_eCompN (Fi : EI) (A : EG) (T : ET) (F : EV) (vs : List Nat) (ρ : Rho) : eCompN Fi A T F vs ρ = (Fi ρ >>= fun ds => guardR (fits ds.length) ds >>= fun ds => nx (compR (cStep A T (eLs F) (wipeR ρ vs)) ds) >>= fun ys => .ok ys) := id rfl
@[simp] theorem x_sRaise (n : Str) (ρ : Rho) : sRaise n ρ = .exc ⟨n, []⟩ ρ := id rfl
@[simp] theorem x_dRevL (ds : List D) : dRev (.list ds) = .ok (.list ds.reverse) := id rfl
@[simp] theorem x_dRevT (ds : List D) : dRev (.tuple ds) = .ok (.tuple ds.reverse) := id rfl
@[simp] theorem x_dRevS (z : Str) : dRev (.str z) = guardR (fits z.length) (.str (revS z)) := id rfl
@[simp] theorem ofexc {α : Type} (x : Exc) (ρ : Rho) (k : α → Out) : Out.of (.exc x) ρ k = .exc x ρ := id rfl
theorem x_ofok {α : Type} (a : α) (ρ : Rho) (k : α → Out) : Out.of (.ok a) ρ k = k a := id rfl
/-- a tuple of ints and texts: when two are equal -/
theorem join_nil (ds : List D) : dJoin (.str "") [.list ds] = joinD "" ds := id rfl
theorem strsOf_map (xs : List Str) : strsOf (xs.map .str) = some xs := by
  induction xs with
  | nil => rfl
  | cons x xs ih => show (strsOf (xs.map .str)).map (x :: ·) = _; rw [ih]; rfl
theorem joinD_map (a : Str) (xs : List Str) (h : joinOk a xs = true) : joinD a (xs.map .str) = .ok (.str (Txt.join a xs)) := by
  unfold joinD
  rw [strsOf_map]
  exact guardR_of h _
end PQ

/-! PQ.36: an own exception whose __init__ says super().__init__(text + str(x)); self.x = x -/
namespace PQ
open PySem PySem.Spec PyProof.Rows L2 NdefX
open PySem.W (KxsFacts kxs_ValueError kxs_mw kxs_getMethod kxs_callWith KxsAt check_bound_init exc_init_tree excTup excRec)

section
variable {X : Cx} {pins : List (Addr × Obj)} {σ : St} {H : Hp} {s : Shared}
theorem inv_pin (I : Inv X pins σ H s) {u : Addr} {o : Obj} (h1 : s.heap.get? u = some o) (h2 : H u = none) (h3 : u ≠ X.env.locals) (h4 : u ∉ X.fs) (h5 : ∀ v, o.data ≠ .cell v) : Inv X ((u, o) :: pins) σ H s := by
  refine I.pins_of fun p hp => ?_
  rcases List.mem_cons.mp hp with rfl | hp
  · exact ⟨h1, h2, h3, h4, h5⟩
  · exact I.pin p (List.mem_append_right _ hp)
theorem inv_unpin {p : Addr × Obj} (I : Inv X (p :: pins) σ H s) : Inv X pins σ H s := I.pins_of fun q hq => I.pin q (List.mem_append_right _ (List.mem_cons_of_mem _ hq))
end
/-- the bound built-in __init__ called: the args are laid anew -/
theorem call_mw {prog : Program} {w : World} {A : Around} {E : Value → Shared → Prop} {h : Heap} {g : Array GenState} {d : Drawn} {t : Nat} {os : OsState}
    {nm q : Str} {C N : Addr} {bs bm : List Value} {sn : List Str} {sub : List Value} {ab : Bool} {col : Option Bool} {dd : Option Addr} {k0 k1 k2 k3 k5 : Option Value} {u e t0 : Addr} {rest : List Value} {Q : Value → Shared → Prop}
    (hC : h.get? C = some (excClassObj nm q C N bs bm true sn sub ab col dd k0 k1 k2 k3 k5 "ValueError.__new__")) (he : h.get? e = some ({ cls := .ref C, dict := none, data := .fields #[.ref t0, .none, .none, .none, .bool false, .none] } : Obj)) (hu : h.get? u = some (kxs_mw "ValueError.__init__" e)) (hrest : rest.length ≤ sizeLine)
    (hq : ∀ h' t1, (∀ b o, b ≠ e → h.get? b = some o → h'.get? b = some o) → h'.get? e = some ({ cls := .ref C, dict := none, data := .fields #[.ref t1, .none, .none, .none, .bool false, .none] } : Obj) → Q .none ⟨h', g, d, t, os⟩) :
    wpAny (model prog w) A (call (.ref u) rest) Q E ⟨h, g, d, t, os⟩ := by
  have FB := PySem.F.excBase_ValueError
  refine wpAny_call (codeAny_of_tree ?_)
  show wpAny _ A.in1 (callAny (.ref u) ⟨rest, []⟩) _ _ _
  simp only [callAny]
  refine wpAny_bind (wpAny_load hu ?_)
  have hmw : (Value.type "method-wrapper" == Value.type "method" || Value.type "method-wrapper" == Value.type "builtin_function_or_method" || Value.type "method-wrapper" == Value.type "method-wrapper") = true := by decide
  simp only [kxs_mw, hmw, if_true]
  refine PySem.W.KFB.if_so (by decide) ?_
  refine wpAny_bind (check_bound_init FB.toExcCallFacts hC he rfl ?_)
  refine wpAny_bind (wpAny_pure (wpAny_pure ?_))
  refine ⟨plainId_quiet FB.init.plain _, codeAny_builtin FB.initEntry ?_⟩
  exact exc_init_tree (cls := .ref C) (t0 := t0) (dv := none) (c2 := .none) (c3 := .none) (b4 := .bool false) he hrest fun h' k e' t' => hq h' _ k e'
theorem super_args {X : Cx} {pins : List (Addr × Obj)} {σ : St} {H : Hp} {s : Shared} {u a C : Addr} {arg : Expr} {p3 : Pos} {Q : Value → Shared → Prop} (T : OexC X.K C) (I : Inv X ((u, kxs_mw "ValueError.__init__" a) :: pins) σ H s) (ea : H a = some (exo a C none))
    (pa : PAat X [arg] σ H (fun vs H1 => Same H H1 ∧ ∃ t, vs = [.str t])) (hsp : starEach [arg] X.env = (false, eval arg X.env) :: starEach [] X.env)
    (hq : ∀ s' H1, Inv X pins σ H1 s' → Same H H1 → Q .none s') : wpAny (model X.prog X.w) X.A (callWith p3 (.ref u) [] (backTo p3 (starEach [arg] X.env)) []) Q X.xe s := by
  have h : wpAny (model X.prog X.w) X.A (spliced (backTo p3 (starEach [arg] X.env))) (fun us s1 => KxsAt "ValueError.__init__" u a s1.heap ∧ wpAny (model X.prog X.w) X.A (call (.ref u) us) Q X.xe s1) X.xe s := by
    refine thn (pa p3 _ _ I) fun us s1 hh => ?_
    obtain ⟨vs, H1, I1, r1, sm, t, rfl⟩ := hh
    have hpin := (I1.pin _ (List.mem_append_right _ List.mem_cons_self)).1
    refine ⟨hpin, ?_⟩
    have e1 := sm _ _ ea
    obtain ⟨nm, q, N, bs, bm, sn, sub, ab, col, dd, k0, k1, k2, k3, k5, hC, hbm⟩ := T.cls
    obtain ⟨t1, ho⟩ := exo_at I1.hok e1
    have hl : us.length = 1 := by
      have := Paired.length r1
      exact this.symm
    obtain ⟨hp, g, d, tk, os⟩ := s1
    refine call_mw (I1.kIn _ _ hC) ho hpin (by rw [hl, sizeLine_eq]; omega) fun h' t2 k hx => ?_
    have J := I1.write (t' := tk) (x := a) (e := a) (o := exo a C none) (by rw [e1]; exact True.intro) (.inl rfl) k ⟨_, hx⟩ (exo_ok hx)
    have eu : upd H1 a (exo a C none) = H1 := by
      funext b
      by_cases hb : b = a
      · rw [hb, upd_same, e1]
      · rw [upd_ne hb]
    rw [eu] at J
    exact hq _ _ (inv_unpin J) sm
  rw [hsp] at h ⊢
  exact kxs_callWith (i := "ValueError.__init__") (x := a) (by rfl) (Calls.evalArgs_plain h)
/-! ### __init__ -/
def strOk (i : Int) : Bool := match dStr [.int i] with
  | .ok (.str z) => fits z.length
  | _ => false
/-- what __init__ does: self is an exception in the making -/
def spInit (C : Addr) (fld : Str) (F : EV) : Sp := fun vs H Q E => ∃ (a : Addr) (i : Int) (t : Str), vs = [.ref a, .int i] ∧ H a = some (exo a C none) ∧ F [.u, .f (.int i), .u] = .ok (.str t) ∧
  ∀ dx H2, Same H H2 → H2 dx = none → dx ≠ a → Q .non (upd (upd H2 dx (exd dx [(fld, .int i)])) a (exo a C (some dx)))
/-- what the written part says -/
structure SupK (P : Program) (K : PySem.W.Frag) (mg : Str → Option Value) (C cc cda : Addr) (fld qual : Str) : Prop where
  oex : OexC K C
  cd : PySem.W.codeIn K (.ref cda) qual = true
  code : ∃ ccl cdd vs ccs file tf, K.lookup cda = some ⟨ccl, cdd, .fields vs, ccs⟩ ∧ vs[2]? = some (.str file tf) ∧ ((P.main.file : Str) == file) = true
  cell : ∃ cl cld csl, K.lookup cc = some ⟨cl, cld, .cell (some (.ref C)), csl⟩
  sub : PySem.W.mroIn K C (.ref C) = some true
  sup : mg "super" = none
  ini : PySem.W.ks_superIn K C C "__init__" = some (some (.builtin "ValueError.__init__"))
  ve : PySem.W.subIn K (.ref C) (.type "ValueError") = some true
  any : PySem.W.nsIn K cStatics "thirdparty.any" = some none
  fld : PySem.W.findIn K (.ref C) fld = some none
  top : (P.main.scope.names.lookup ("super" : Str)).isSome = false
abbrev supB (p0 p1 p2 p3 p4 q1 q2 q3 q4 : Pos) (x : Str) (arg : Expr) : List Stmt := [.Expr (.Call (.Attribute (.Call (.Name "super" p0) [] [] p1) "__init__" p2) [arg] [] p3) p4, .Assign [.Attribute (.Name "self" q1) x q2] (.Name x q3) q4]
section
variable {CX : CXT} {P : Program} {w : World} {K : PySem.W.Frag} {mg : Str → Option Value} {base : Heap}
variable {k : Nat} {f C cc cda : Addr} {name qual x : Str} {params : Arguments} {scope : Scope} {dV kV doc pm ct oc : Value} {an od : Option Addr} {osl : Array (Option Value)} {F : EV}
variable {p0 p1 p2 p3 p4 q1 q2 q3 q4 : Pos} {arg : Expr}
theorem init_ok (G : SupK P K mg C cc cda x qual)
    (lk : K.lookup f = some ⟨oc, od, .func (PySem.W.fnX name qual params (supB p0 p1 p2 p3 p4 q1 q2 q3 q4 x arg) scope [("__class__", cc)] dV kV doc pm an (.ref cda) ct), osl⟩)
    (S : NScope ["self", x, "__class__"] ["self", x] ["__class__"] scope) (hks : scope.names.lookup ("super" : Str) = some .globalImplicit) (hps : ∃ ar : Arg, (params.posonlyargs ++ params.args).head? = some ar ∧ ar.arg = "self")
    (hev : ∀ L : Addr, ∃ pl : Sem Bool, eval (.Call (.Attribute (.Call (.Name "super" p0) [] [] p1) "__init__" p2) [arg] [] p3) (PySem.W.envX qual scope L f (.ref cda) [("__class__", cc)]) = (do
      let ov ← attributeBase (.Call (.Name "super" p0) [] [] p1) "__init__" (PySem.W.envX qual scope L f (.ref cda) [("__class__", cc)]) (eval (.Call (.Name "super" p0) [] [] p1) (PySem.W.envX qual scope L f (.ref cda) [("__class__", cc)]))
      standAt p2.atName
      let (g, first) ← holding [ov] (getMethod ov "__init__" pl)
      callWith p3 g first (backTo p3 (starEach [arg] (PySem.W.envX qual scope L f (.ref cda) [("__class__", cc)]))) []))
    (hst : ∀ L : Addr, starEach [arg] (PySem.W.envX qual scope L f (.ref cda) [("__class__", cc)]) = (false, eval arg (PySem.W.envX qual scope L f (.ref cda) [("__class__", cc)])) :: starEach [] (PySem.W.envX qual scope L f (.ref cda) [("__class__", cc)]))
    (hs1 : ∀ L : Addr, swapsWith (.Call (.Attribute (.Call (.Name "super" p0) [] [] p1) "__init__" p2) [arg] [] p3) none p4.line (PySem.W.envX qual scope L f (.ref cda) [("__class__", cc)]) = pure false)
    (hs2 : ∀ L : Addr, swapsWith (.Name x q3) (some (.Attribute (.Name "self" q1) x q2)) q4.line (PySem.W.envX qual scope L f (.ref cda) [("__class__", cc)]) = pure false)
    (hxd : (x == ("__debug__" : Str)) = false) (hxc : (x == ("__classdict__" : Str)) = false)
    (ha : ∀ (A : Around) (outer : List Env) (s : Shared) (H : Hp) (E : XK), Ev (ncx CX P w K mg base ["self", x, "__class__"] ⟨name, qual, params, (supB p0 p1 p2 p3 p4 q1 q2 q3 q4 x arg), scope, [("__class__", cc)], cda⟩ f A outer s H E) WF arg F) :
    FnOk P w K mg base CX (k + 1) f (PySem.W.fnX name qual params (supB p0 p1 p2 p3 p4 q1 q2 q3 q4 x arg) scope [("__class__", cc)] dV kV doc pm an (.ref cda) ct) ["self", x] (spInit C x F) := by
  refine ⟨fun vs H Q E h => ?_, fun A outer s H args us vs Q E hr e0 hb r hsp => ?_⟩
  · obtain ⟨a, i, t, rfl, _⟩ := h; rfl
  obtain ⟨a, i, tx, rfl, hx0, hF, hq⟩ := hsp
  have KX : K.In s.heap := e0.mod.kin.keeps fun b o e => (e0.bs b o e).1
  have lim : s.heap.NoLimit := e0.mod.nolimit.keeps fun b o e => (e0.bs b o e).1
  refine PySem.ks_codeAny_call_defAt hr.depth (KX _ _ lk) rfl lim (PySem.W.codeRec_of KX G.cd) rfl hb S.nocell (fun ⟨n, v⟩ hy => S.par n (List.of_mem_zip hy).1) (fun h₁ hns kp => ?_) S.co S.gen S.kind
  obtain ⟨ccl, cdd, vsC, ccs, file, tf, lcode, hvs, hfile⟩ := G.code
  obtain ⟨cl, cld, csl, lcell⟩ := G.cell
  obtain ⟨nm, qn, N, bs, bm, sn, sub, ab, col, dd, k0, k1, k2, k3, k5, hC, hbm⟩ := G.oex.cls
  have hcl : PySem.W.clsIn K C = some { name := nm, bases := bs, mro := .ref C :: bm, ns := N, qualname := qn, hasDict := true, slotNames := sn, subclasses := sub, abstract := ab, collection := col, hasDel := false } := by unfold PySem.W.clsIn; rw [hC] <;> rfl
  have hcc := e0.bs _ _ (e0.mod.kin _ _ lcell)
  have one : ∀ {y : Str} {c : Addr}, ([("__class__", cc)] : List (Str × Addr)).lookup y = some c → y = "__class__" ∧ c = cc := fun {y c} e => by
    by_cases q : y = "__class__"
    · subst q
      have : some cc = some c := e
      exact ⟨rfl, (Option.some.inj this).symm⟩
    · have q' : (y == ("__class__" : Str)) = false := by simpa using q
      rw [List.lookup, q'] at e
      cases e
  have CA : CellsAt [("__class__", cc)] ["__class__"] [none] s.heap H := by
    refine ⟨rfl, fun y c e => ?_, fun y z c e1 e2 => ?_, fun j y e => ?_⟩
    · obtain ⟨rfl, rfl⟩ := one e
      exact ⟨hcc.2, _, _, hcc.1, rfl⟩
    · rw [(one e1).1, (one e2).1]
    · cases j with
      | zero =>
        cases e
        exact ⟨cc, rfl, fun v hv => by cases hv⟩
      | succ j => cases e
  have I := inv_startN (CX := CX) (P := P) (w := w) (K := K) (mg := mg) (base := base) (F := ⟨name, qual, params, supB p0 p1 p2 p3 p4 q1 q2 q3 q4 x arg, scope, [("__class__", cc)], cda⟩) (f := f) (E := E) (ws := [none]) (tk := s.toks + ([("self" : Str), x].zip us).length) S hr.hd e0 (by rfl) r CA hns kp
  have ha := ha A outer s H E
  have KX1 : K.In h₁ := KX.keeps kp
  obtain ⟨ar, hp, har⟩ := hps
  have hu0 : ∃ u1, us = [.ref a, u1] ∧ RelV (.int i) u1 := by
    cases r with
    | cons r1 rr =>
      cases rr with
      | cons r2 rr => cases rr; cases (show _ = Value.ref a from r1); exact ⟨_, rfl, r2⟩
  obtain ⟨u1, rfl, ru1⟩ := hu0
  have nd := S.nd
  have hsx : ("self" : Str) ≠ x := by
    intro e
    have := (List.nodup_cons.mp nd).1
    rw [← e] at this
    exact this List.mem_cons_self
  have hself : ([("self" : Str), x].zip [Value.ref a, u1]).reverse.lookup ar.arg = some (.ref a) := by
    rw [har]
    have q : (("self" : Str) == x) = false := by simpa using hsx
    show List.lookup ("self" : Str) ([(x, u1), (("self" : Str), Value.ref a)] : List (Str × Value)) = _
    rw [List.lookup, q]; rfl
  have hka : scope.names.lookup ar.arg = some .local := by rw [har]; exact S.par _ List.mem_cons_self
  have hkc : scope.names.lookup ("__class__" : Str) = some .free := S.frk _ List.mem_cons_self
  obtain ⟨t1, hx1⟩ := exo_at I.hok hx0
  have hD1 := KX1 _ _ hC
  obtain ⟨pl, hev⟩ := hev s.heap.objs.size
  have hint : interactive (PySem.W.envX qual scope s.heap.objs.size f (.ref cda) [("__class__", cc)]) = false := by
    unfold interactive
    simp [S.kind]
  refine ks_wpAt_execs_cons (ks_wpAt_Expr_any (ks_wpAt_MethodCall (pl := pl) ?_ hev) hint (hs1 _))
  refine ks_wpAt_super_base (env := PySem.W.envX qual scope s.heap.objs.size f (.ref cda) [("__class__", cc)]) hks hkc (by decide) rfl (KX1 _ _ lk) rfl hp rfl (KX1 _ _ lcode) rfl hvs hfile G.top ?_
  obtain ⟨mb, hb1, hb2⟩ := e0.mod.blt
  have kb : ∀ b o, base.get? b = some o → h₁.get? b = some o := fun b o e => kp _ _ (e0.bs b o e).1
  refine PySem.W.ks_loadName_global S.kind hks (Calls.loadGlobal_builtin (env := PySem.W.envX qual scope s.heap.objs.size f (.ref cda) [("__class__", cc)]) (e0.mod.glob.keeps kb) G.sup (hb1.keeps kb) ((hb2 "super" (by decide)).trans (by decide +kernel)) ⟨rfl, ?_⟩)
  refine wpAny_loadName_free S.kind hkc rfl ⟨_, KX1 _ _ lcell, rfl⟩ ?_
  refine wpAny_loadName_local S.kind hka hns hself ?_
  refine ks_wpAny_isType_cls hD1 rfl ⟨rfl, ?_⟩
  refine ks_wpAny_call_super hD1 rfl hx1 rfl (fun c z => by cases z) (PySem.W.looks_mroIn KX1 G.sub) fun h2 hso k2 => ?_
  have K2 : K.In h2 := KX1.keeps k2
  have IA : PySem.W.InstAt h2 a _ C none := ⟨k2 _ _ hx1, rfl, rfl, trivial⟩
  have hini : PySem.W.alongIn K "__init__" (((Value.ref C :: bm).dropWhile (· != .ref C)).drop 1) = some (some (.builtin "ValueError.__init__")) := by
    have := G.ini
    unfold PySem.W.ks_superIn at this
    rw [hcl] at this
    exact this
  have I2 := I.kept (t' := s.toks + ([("self" : Str), x].zip [Value.ref a, u1]).length) k2
  refine kxs_getMethod kxs_ValueError (K := K) (C := C) (D := C) (x := a) hso (PySem.W.looks_opaque K2 G.any) (l₀ := .ref C :: bm) (fun A Q E s k q => wpAny_bind ((PySem.W.looks_clsIn K2 hcl) A _ E s k (wpAny_pure q))) rfl K2 hini (IA.type.andThen (PySem.W.looks_subIn K2 G.ve)) (PySem.W.ks_ne K2 IA hcl) (by decide) ?_
  have I3 := inv_pin (I2.kept (t' := s.toks + ([("self" : Str), x].zip [Value.ref a, u1]).length + 1) (h' := h2.push (kxs_mw "ValueError.__init__" a)) fun b o e => Heap.get?_push_of_some _ e) (u := h2.objs.size) (o := kxs_mw "ValueError.__init__" a) (Heap.get?_push_size _ rfl) (I2.hok.fresh (Nat.le_refl _)) (Nat.ne_of_gt I2.lt) (I2.nofs (Nat.le_refl _)) (fun v z => by cases z)
  have rep : Rep w K (fun _ => none) H (fun _ => none) H (startF ["self", x, "__class__"] [.ref a, .int i] [none]) [.u, .f (.int i), .u] := by
    refine ⟨⟨Same.refl _, Same.refl _, (fun b u e => by cases e), (fun _ _ e _ => e)⟩, rfl, fun j c sl e1 e2 => ?_, fun j j' c e sl t b hj e1 e2 e3 e4 o1 o2 => ?_⟩
    · match j, e1, e2 with
      | 0, e1, e2 => cases e2; trivial
      | 1, e1, e2 => cases e1; cases e2; exact ⟨_, rfl, .int i⟩
      | 2, e1, e2 => cases e2; trivial
      | j + 3, e1, e2 => cases e2
    · match j, e3 with
      | 0, e3 => cases e3; exact o1.elim
      | 1, e3 => cases e3; exact o1.elim
      | 2, e3 => cases e3; exact o1.elim
      | j + 3, e3 => cases e3
  have post := (ea_cons ha ea_nil (he := hst _)).go (Q := fun vs H1 => Same H H1 ∧ ∃ t, vs = [V.str t]) rep (by
    show Post _ _ _ _ _ (F [.u, .f (.int i), .u] >>= _) _
    rw [hF]
    intro vs Z' H' x rd
    refine ⟨x.hh, ?_⟩
    obtain ⟨v, rfl, r0⟩ := rds1 rd
    cases r0
    exact ⟨_, rfl⟩)
  refine super_args (C := C) (pins := []) G.oex I3 hx0 post (hst _) fun s5 H3 I5 sm => ?_
  have e3 := sm _ _ hx0
  have vx : Vis scope x := .inl (S.par _ (List.mem_cons_of_mem _ List.mem_cons_self))
  have vself : Vis scope "self" := .inl (S.par _ List.mem_cons_self)
  refine wpAt_of_wpAny (wpAny_mono ((pss_one (ps_ost (pe_var (i := 0) (x := "self") (by rfl) vself) (pe_var (i := 1) (x := x) (by rfl) vx hxd hxc) (hs2 s.heap.objs.size))).run [] s5 _ H3 { nx := fun _ H' => Q .non H', rt := Q } I5 ?_) (fun fl s' hs => ?_) fun e s' hs => hs)
  · exact ⟨.int i, rfl, .ref a, rfl, a, C, rfl, G.oex, G.fld, .inl ⟨e3, fun dx n ne => hq dx H3 sm n ne⟩⟩
  · have fin : ∀ {σ' : L2.St} {H' : Hp} {v : V} {u : Value}, Inv (ncx CX P w K mg base ["self", x, "__class__"] ⟨name, qual, params, supB p0 p1 p2 p3 p4 q1 q2 q3 q4 x arg, scope, [("__class__", cc)], cda⟩ f A outer s H E) [] σ' H' s' → RelV v u → Q v H' → CE outer P w H s Q u s' :=
      fun {σ' H' v u} J rv q => ⟨v, H', J.os, J.bare, J.base, J.hok, rv, q⟩
    cases fl with
    | ret u =>
      obtain ⟨v, σ', H', J, rv, q⟩ := hs
      exact fin J rv q
    | next =>
      obtain ⟨σ', H', J, q⟩ := hs
      exact fin (v := V.non) (u := Value.none) J rfl q
    | brk =>
      obtain ⟨_, _, _, q⟩ := hs
      exact False.elim q
    | cont =>
      obtain ⟨_, _, _, q⟩ := hs
      exact False.elim q
end
end PQ

/-! PQ.37: raising such an exception; except C as e: return .., with e.x and isinstance(e, D) -/
namespace PQ
open PySem PySem.Spec PyProof.Rows L2 NdefX

def initOk (FI : EV) : D → Bool
  | .int i => match FI [.u, .f (.int i), .u] with
    | .ok (.str _) => true
    | _ => false
  | _ => false
def sRaiseF (n fld : Str) (FI F : EV) : ES := fun ρ => Out.of (F ρ) ρ fun d => Out.of (guardR (initOk FI d) d) ρ fun d => .exc ⟨n, [(fld, d)]⟩ ρ
@[simp] theorem x_sRaiseF (n fld : Str) (FI F : EV) (ρ : Rho) : sRaiseF n fld FI F ρ = Out.of (F ρ) ρ fun d => Out.of (guardR (initOk FI d) d) ρ fun d => .exc ⟨n, [(fld, d)]⟩ ρ := id rfl
theorem initOk_of {FI : EV} {d : D} (h : initOk FI d = true) : ∃ i t, d = .int i ∧ FI [.u, .f (.int i), .u] = .ok (.str t) := by
  unfold initOk at h
  split at h
  · split at h
    · exact ⟨_, _, rfl, by assumption⟩
    · cases h
  · cases h
section
variable {X : Cx} {W : WX} {Z0 H0 Z H : Hp} {σ : St} {ρ : Rho} {e : Expr} {F FI : EV}
theorem es_raiseF {x fld : Str} {C fI : Addr} {fd : FuncData} {k : Nat} {p p3 pos : Pos} (hc : X.calm = true) (tk : Takes X W) (T : OexC X.K C) (iC : PySem.W.findIn X.K (.ref C) "__init__" = some (some (.ref fI))) (tI : PySem.W.typeIn X.K (.ref fI) = some (.type "function"))
    (F1 : FnOk X.prog X.w X.K X.mg X.base CX0 k fI fd ["self", fld] (spInit C fld FI)) (hr : Room (k + 1) X.A) (hb : Binds X.K fd ["self", fld] []) (hm : X.mg x = some (.ref C)) (he : Ev X W e F) (hg : Gl X x := by rfl) (hdb : (x == ("__debug__" : Str)) = false := by decide)
    (hst : starEach [e] X.env = (false, eval e X.env) :: starEach [] X.env := by rfl) :
    Es X W (.Raise (some (.Call (.Name x p) [e] [] p3)) none pos) (sRaiseF x fld FI F) := by
  refine ⟨fun {Z0 H0 Z H σ ρ En} r q => toAtS (ps_raise hc tk (pmk_oex (dvs := []) T iC tI F1 hr hb .nil (fun _ _ _ _ _ _ _ h => h.elim) hg hm pa_at hdb hst (by rfl))) ?_⟩
  have q := q.post r
  have q2 : Post X W Z H σ (eCons F eNil ρ) (fun ds => ∃ d, ds = [d] ∧ SPost X W Z0 H0 Z (Out.of (guardR (initOk FI d) d) ρ fun d => .exc ⟨x, [(fld, d)]⟩ ρ) En) := by
    show Post X W Z H σ (F ρ >>= fun d => eNil ρ >>= fun ds => .ok (d :: ds)) _
    cases e : F ρ with
    | ok d => rw [e] at q; exact ⟨d, rfl, q⟩
    | exc y => rw [e] at q; exact q
    | stuck => rw [e] at q; exact q.elim
  refine (ea_cons he ea_nil (he := hst)).go r (q2.mono fun ds hd vs Z1 H1 x1 rd => ?_)
  obtain ⟨d, rfl, q3⟩ := hd
  obtain ⟨v, rfl, rv⟩ := rds1 rd
  have ok : initOk FI d = true := by
    cases c : initOk FI d with
    | true => rfl
    | false => rw [c] at q3; exact q3.elim
  rw [ok] at q3
  obtain ⟨i, t, rfl, hF⟩ := initOk_of ok
  cases rv
  refine ⟨by show 1 ≤ 1000; omega, fun a ha => ⟨a, i, t, rfl, upd_same, hF, fun dx H2 sm hn ne => ⟨rfl, dx, [(fld, .int i)], upd_same, ?_, ?_, ?_⟩⟩⟩
  · rw [upd_ne ne, upd_same]
  · cases e1 : H1 dx with
    | none => rfl
    | some o =>
      have e2 : (upd H1 a (exo a C none)) dx = some o := by rw [upd_ne ne]; exact e1
      rw [sm _ _ e2] at hn; cases hn
  · have n1 : H1 dx = none := by
      cases e1 : H1 dx with
      | none => rfl
      | some o =>
        have e2 : (upd H1 a (exo a C none)) dx = some o := by rw [upd_ne ne]; exact e1
        rw [sm _ _ e2] at hn; cases hn
    have up : ∀ b o, H1 b = some o → (upd (del (upd (upd H2 dx (exd dx [(fld, .int i)])) a (exo a C (some dx))) a) dx (.xd [(fld, .int i)])) b = some o := by
      intro b o e1
      have b1 : b ≠ a := by rintro rfl; rw [ha] at e1; cases e1
      have b2 : b ≠ dx := by rintro rfl; rw [n1] at e1; cases e1
      rw [upd_ne b2, del_ne b1, upd_ne b1, upd_ne b2]
      exact sm _ _ (by rw [upd_ne b1]; exact e1)
    have x2 : Ext Z1 H1 (upd Z1 dx (.xd [(fld, .int i)])) (upd (del (upd (upd H2 dx (exd dx [(fld, .int i)])) a (exo a C (some dx))) a) dx (.xd [(fld, .int i)])) := by
      have zn : Z1 dx = none := by
        cases e1 : Z1 dx with
        | none => rfl
        | some o => rw [x1.zh _ _ e1] at n1; cases n1
      refine ⟨up, same_upd zn, fun b o e1 => ?_, fun b o e1 e2 => ?_⟩
      · by_cases hb : b = dx
        · subst hb; rw [upd_same] at e1 ⊢; exact e1
        · rw [upd_ne hb] at e1
          exact up _ _ (x1.zh _ _ e1)
      · rw [upd_ne (by rintro rfl; rw [n1] at e2; cases e2)]
        exact e1
    exact q3 _ _ _ _ _ (r.step (x1.trans x2)) (x1.zz.trans x2.zz) (.fld hm upd_same (.int i))
/-! ### e.x of a caught exception -/
def slX (a : Addr) (d : Option Addr) (n : Str) : Option Sl → R Exc
  | some (.x a' d' x) => if a' = a ∧ d' = d ∧ x.cls = n then .ok x else .stuck
  | _ => .stuck
@[simp] theorem x_slX (a : Addr) (d : Option Addr) (x : Exc) : slX a d x.cls (some (.x a d x)) = .ok x := if_pos ⟨rfl, rfl, rfl⟩
def fldX (f : Str) (x : Exc) : R D := match x.fld with
  | [(g, d)] => if g = f then .ok d else .stuck
  | _ => .stuck
def eXf (i : Nat) (a : Addr) (d : Option Addr) (n f : Str) : EV := fun ρ => slX a d n ρ[i]? >>= fldX f
@[simp] theorem x_eXf (i : Nat) (a : Addr) (d : Option Addr) (n f : Str) (ρ : Rho) : eXf i a d n f ρ = (slX a d n ρ[i]? >>= fldX f) := id rfl
end
section
variable {X : Cx} {W : WX} {Z0 H0 Z H : Hp} {σ : St} {ρ : Rho} {e : Expr} {F FI : EV}
theorem ev_xf {a C : Addr} {oe : Obj} {cls : Value} {d : Option Addr} {pn : List (Addr × Obj)} {n f y : Str} {p pos : Pos} (i : Nat) (T : XfC X.K C) (hno : PySem.W.findIn X.K (.ref C) f = some none) (hz : Zc cls d oe) (hf : ∃ vs, oe.data = .fields vs) (hcls : cls = .ref C)
    (hi : (X.suite a ((a, oe) :: pn)).N[i]? = some y := by rfl) (hv : Vis (X.suite a ((a, oe) :: pn)).env.scope y := by first | exact Or.inl rfl | exact Or.inr (Or.inl rfl) | exact Or.inr (Or.inr rfl)) (hd : (y == ("__debug__" : Str)) = false := by decide) (hcd : (y == ("__classdict__" : Str)) = false := by decide)
    (hb : attributeBase (.Name y p) f X.env (eval (.Name y p) X.env) = eval (.Name y p) X.env := by rfl) : Ev (X.suite a ((a, oe) :: pn)) W (.Attribute (.Name y p) f pos) (eXf i a d n f) := by
  refine ⟨fun {Z0 H0 Z H σ ρ Q} r q => toAt (pe_xf T hno hz hf (pe_var hi hv hd hcd) hb) ?_⟩
  unfold eXf at q
  cases hr : ρ[i]? with
  | none => rw [hr] at q; exact q.elim
  | some s =>
    rw [hr] at q
    cases s with
    | x a' d' x =>
      by_cases hc : a' = a ∧ d' = d ∧ x.cls = n
      · have e1 : slX a d n (some (.x a' d' x)) = .ok x := if_pos hc
        rw [e1] at q
        have qq : Post (X.suite a ((a, oe) :: pn)) W Z H σ (fldX f x) (fun d => ∀ v Z' H', Ext Z H Z' H' → RD X.w X.K Z' v d → Q v H') := q
        obtain ⟨rfl, rfl, hn⟩ := hc
        have hlen : i < σ.length := by rw [r.len]; exact (List.getElem?_eq_some_iff.mp hr).1
        obtain ⟨hc2, hfl⟩ := r.sl i _ _ (List.getElem?_eq_getElem hlen) hr
        have hs : σ[i]? = some (some (.ref a')) := by rw [List.getElem?_eq_getElem hlen, hc2]
        unfold fldX at qq
        split at qq
        · rename_i g dd hx
          split at qq
          · rename_i hg
            subst hg
            obtain ⟨b, v, h1, h2, h3⟩ := hfl _ _ hx
            refine ⟨.ref a', hs, rfl, hcls, b, [(g, v)], v, h1, r.zh _ _ h2, ?_, qq v Z H (Ext.refl r.zh) h3⟩
            simp [List.lookup]
          · exact qq.elim
        · exact qq.elim
      · have e1 : slX a d n (some (.x a' d' x)) = .stuck := if_neg hc
        rw [e1] at q
        exact q.elim
    | _ => exact q.elim
/-! ### except C as e: return v -/
def sTryAs (S : ES) (tab : List (Str × Bool)) (V : Exc → R D) : ES := fun ρ => match S ρ with
  | .exc x ρ2 => (match tab.lookup x.cls with
    | some true => (match V x with
      | .ok d => .ret d
      | _ => .stuck)
    | some false => .exc x ρ2
    | none => .stuck)
  | o => o
theorem Rep.setX (r : Rep X.w X.K Z0 H0 Z H σ ρ) (i : Nat) {a : Addr} {x : Exc} {cls : Value} {d : Option Addr} (rx : RX X.w X.K X.mg Z x cls d) : Rep X.w X.K Z0 H0 Z H (σ.set i (some (.ref a))) (ρ.set i (.x a d x)) := by
  refine r.one i _ _ r.ext (Same.refl _) (fun j c s b _ h1 h2 o => r.keepsO j c s b h1 h2 o) ⟨rfl, fun f v e => ?_⟩ fun _ _ _ _ _ _ _ _ o => o
  cases rx with
  | bare h => cases e
  | fld h1 h2 h3 =>
    cases e
    exact ⟨_, _, rfl, h2, h3⟩
theorem es_tryAs {x n : Str} {c : Value} {i : Nat} {body : List Stmt} {ve : Expr} {rp np pos pos' : Pos} {S : ES} {tab : List (Str × Bool)} {V : Exc → R D} {G : Addr → Option Addr → Exc → EV} (hs : X.stack = X.env :: X.outer) (hf : X.env.frame = some X.env.locals) (hN : X.N.Nodup) (hc : Names X x c) (tk : Takes X W)
    (ht : TabOk X.K X.mg c tab)
    (hb : ∀ (W' : WX) (pn : List (Addr × Obj)) (xe : Value → Shared → Prop), Takes (X.tr pn xe) W' → PassesOwn (model X.prog X.w) X.A X.env xe → Ess (X.tr pn xe) W' body S)
    (hsu : ∀ (a : Addr) (oe : Obj) (cls : Value) (d : Option Addr) (pn : List (Addr × Obj)) (x : Exc) (C : Addr), Zc cls d oe → (∃ vs, oe.data = .fields vs) → X.mg x.cls = some (.ref C) → cls = .ref C → tab.lookup x.cls = some true → Ev (X.suite a ((a, oe) :: pn)) WF ve (G a d x))
    (hV : ∀ (a : Addr) (d : Option Addr) (x : Exc) (ρ : Rho), i < ρ.length → G a d x (ρ.set i (.x a d x)) = V x)
    (hi : X.N[i]? = some n := by rfl) (hln : X.env.kindOf n = some .local := by rfl) :
    Es X W (.Try body [.ExceptHandler (some (.Name x np)) (some n) [.Return (some ve) rp] pos'] [] [] pos) (sTryAs S tab V) := by
  refine ⟨fun {Z0 H0 Z H σ ρ En} r q => toAtS (ps_try_as (tb := fun W' D σ H => ∀ pn xe, Takes (X.tr pn xe) W' → PassesOwn (model X.prog X.w) X.A X.env xe → PSsat (X.tr pn xe) body D σ H)
    (ts := wishTo X [.Return (some ve) rp]) hs hf hN hi hln hc tk (fun W' pn xe t p => ⟨fun pins s σ H D I q => q pn xe t p pins s I⟩) (fun a oe cls d pn hz hv => ⟨fun pins s σ H D I q => q oe hz hv pn pins s I⟩)) ?_⟩
  intro pn xe t p
  refine (hb _ pn xe t p).go r ?_
  unfold sTryAs at q
  cases e : S ρ with
  | nx ρ2 => rw [e] at q; exact q
  | ret d => rw [e] at q; exact q
  | bk ρ2 => rw [e] at q; exact q
  | ct ρ2 => rw [e] at q; exact q
  | stuck => rw [e] at q; exact q.elim
  | exc y ρ2 =>
    rw [e] at q
    intro cls dx σ' Z' H' r' s' rx
    have hcls : ∃ C, X.mg y.cls = some (.ref C) ∧ cls = .ref C := by
      cases rx with
      | bare g => exact ⟨_, g, rfl⟩
      | fld g _ _ => exact ⟨_, g, rfl⟩
    obtain ⟨C, g, ec⟩ := hcls
    cases e2 : tab.lookup y.cls with
    | none =>
      have q : SPost X W Z0 H0 Z (match tab.lookup y.cls with
        | some true => (match V y with | .ok d => .ret d | _ => .stuck)
        | some false => .exc y ρ2
        | none => .stuck) En := q
      rw [e2] at q; exact q.elim
    | some b =>
      have q : SPost X W Z0 H0 Z (match tab.lookup y.cls with
        | some true => (match V y with | .ok d => .ret d | _ => .stuck)
        | some false => .exc y ρ2
        | none => .stuck) En := q
      rw [e2] at q
      refine ⟨b, by rw [ec]; exact ht _ _ e2 C g, fun hb1 a ha => ?_, fun hb1 => ?_⟩
      · subst hb1
        intro oe hz hv pn2 pins s I
        have hl : i < ρ2.length := by
          have h1 := r'.len
          have h2 : i < X.N.length := (List.getElem?_eq_some_iff.mp hi).1
          have h3 := I.len
          rw [List.length_set] at h3
          have h3 : σ'.length = X.N.length := h3
          omega
        have ev := hsu a oe cls dx pn2 y C hz hv g ec e2
        refine (ess_one (es_ret ev)).go (Rep.setX r' i (a := a) rx) ?_ pins s I
        show SPost _ _ _ _ _ (Out.of (G a dx y (ρ2.set i (.x a dx y))) _ .ret) _
        rw [hV a dx y ρ2 hl]
        cases e3 : V y with
        | ok d =>
          rw [e3] at q
          exact fun v Z2 H2 x2 rd => q v Z2 H2 x2 rd
        | exc z => rw [e3] at q; exact q.elim
        | stuck => rw [e3] at q; exact q.elim
      · subst hb1
        exact (SPost.step q s') _ _ _ _ _ r' (Same.refl _) rx
end
end PQ

/-! PQ.38: text.split(sep) -/
namespace PQ
open PySem PySem.Spec PyProof.Rows L2
def dSplit : D → List D → R D
  | .str a, [.str b] => guardR (decide (b.length ≠ 0) && fits (a.length + 2)) (.list ((Txt.split a b).map .str))
  | _, _ => .stuck
theorem cl_split (d : D) (ds : List D) : (dSplit d ds).clean := by
  unfold dSplit
  split <;> first | exact clean_guard _ _ | trivial
@[simp] theorem x_dSplit (a b : Str) : dSplit (.str a) [.str b] = guardR (decide (b.length ≠ 0) && fits (a.length + 2)) (.list ((Txt.split a b).map .str)) := id rfl
theorem rds_str {w : World} {K : PySem.W.Frag} {Z : Hp} : ∀ ys : List Str, RDs w K Z (ys.map V.str) (ys.map .str)
  | [] => .nil
  | _ :: ys => .cons (.str _) (rds_str ys)
section
variable {X : Cx} {W : WX} {a b c e f o : Expr} {es rest : List Expr} {pos p apos cpos : Pos} {F G I : EV} {T U : ET} {Fs : EA}
abbrev rSplitT : V → List V → Hp → VK → Prop := fun x xs H Q => ∃ a b, x = .str a ∧ xs = [.str b] ∧ (b.length == 0) = false ∧ a.length + 2 ≤ sizeLine ∧ rNewStrs (Txt.split a b) H Q
theorem me_split : MeD X "str" rSplitT dSplit := by
  intro Z H x d xs ds Q sz rd rs _ h
  unfold dSplit at h
  split at h
  · cases rd
    obtain ⟨v, rfl, r0⟩ := rds1 rs
    cases r0
    obtain ⟨hc, h⟩ := h.guard
    rw [Bool.and_eq_true] at hc
    have h1 := of_decide_eq_true hc.1
    refine ⟨_, _, rfl, rfl, by simpa using h1, fits_le hc.2, fun l hl => ?_⟩
    exact h _ _ _ (Ext.new sz hl) (.lst upd_same (rds_str _))
  · exact h.elim
theorem ev_split (ho : Ev X W o F) (ha : Ea X W (e :: es) Fs) (hbase : attributeBase o "split" X.env (eval o X.env) = eval o X.env := by rfl)
    (hfew : ((backTo cpos (starEach (e :: es) X.env)).all (fun x => !x.1) && (backToKw cpos (keywordEach [] X.env)).all (fun x => x.1.isSome)
      && decide ((e :: es).length + ([] : List Keyword).length + (if ([] : List Keyword).isEmpty then 0 else 1) < 30)) = true := by rfl)
    (hline : (apos.endLine == cpos.line) = true := by rfl) : Ev X W (.Call (.Attribute o "split" apos) (e :: es) [] cpos) (eM "str" dSplit F Fs) :=
  ev_M PySem.F.plainAttrs_str PySem.F.slot_str_split PySem.F.type_str_split mt_split (.inl rfl) me_split cl_split ho ha hbase hfew hline
end
end PQ

/-! PQ.39: what the top has written of such an exception class, in one structure; made from what the end can answer -/
namespace PQ
open PySem PySem.Spec PyProof.Rows L2 NdefX

abbrev mVE : List Value := [.type "ValueError", .type "Exception", .type "BaseException", .type "object"]
structure XIni (P : Program) (w : World) (K : PySem.W.Frag) (mg : Str → Option Value) (n fld : Str) (FI : EV) (C : Addr) : Prop where
  glob : mg n = some (.ref C)
  oex : OexC K C
  xf : XfC K C
  nof : PySem.W.findIn K (.ref C) fld = some none
  ini : ∃ (fI : Addr) (fd : FuncData), PySem.W.findIn K (.ref C) "__init__" = some (some (.ref fI)) ∧ PySem.W.typeIn K (.ref fI) = some (.type "function") ∧ Binds K fd ["self", fld] [] ∧
    ∀ (k : Nat) (base : Heap), FnOk P w K mg base CX0 (k + 1) fI fd ["self", fld] (spInit C fld FI)
theorem refsVE_of : ∀ l : List Value, PySem.W.excTail mVE l = true → PySem.HandSPX.refsVE l = true := by
  intro l
  induction l with
  | nil => intro h; exact absurd h (by decide)
  | cons a r ih =>
    intro h
    rcases PySem.W.excTail_cases (a :: r) h with ⟨c, r', q, h'⟩ | q
    · obtain ⟨rfl, rfl⟩ := List.cons.inj q
      exact ih h'
    · rw [q]; exact (by decide)
theorem oex_mk {K : PySem.W.Frag} {C : Addr} (q : PySem.W.excInitIn K C mVE "ValueError.__new__" = true) (hd : PySem.W.hasDictIn K C = true) (sa : PySem.W.findIn K (.ref C) "__setattr__" = some (some (.builtin "object.__setattr__")))
    (b : PySem.W.subIn K (.ref C) (.type "BaseException") = some true) (t : PySem.W.typeIn K (.ref C) = some (.type "type")) (k : PySem.W.keepIn K (.ref C) = true) : OexC K C := by
  refine ⟨?_, sa, b, t, k⟩
  unfold PySem.W.excInitIn at q
  split at q
  · rename_i dd cd sl ho
    split at q
    · rename_i C' bm k0 k1 k2 k3 n k5 hm hs
      simp only [Bool.and_eq_true, beq_iff_eq, Bool.not_eq_true'] at q
      obtain ⟨⟨⟨rfl, rfl⟩, hdel⟩, ht⟩ := q
      unfold PySem.W.hasDictIn PySem.W.clsIn at hd
      rw [ho] at hd
      obtain ⟨nm, bs, mro, ns, qn, hd', sn, sub, ab, col, del⟩ := cd
      dsimp only at hm hdel
      subst hm hdel
      have e : hd' = true := by simpa using hd
      subst e
      have hsl : sl = #[k0, k1, k2, k3, some (.builtin "ValueError.__new__"), k5] := by
        obtain ⟨l⟩ := sl
        simp only at hs
        rw [hs]
      subst hsl
      exact ⟨nm, qn, ns, bs, bm, sn, sub, ab, col, dd, k0, k1, k2, k3, k5, ho, refsVE_of _ ht⟩
    · cases q
  · cases q
/-- the code's file -/
def codeFileIn (K : PySem.W.Frag) (c : Addr) (file : Str) : Bool := match K.lookup c with
  | some ⟨_, _, .fields vs, _⟩ => (match (vs[2]? : Option Value) with
    | some (Value.str f _) => file == f
    | _ => false)
  | _ => false
theorem codeFile_of {K : PySem.W.Frag} {c : Addr} {f0 : Str} (h : codeFileIn K c f0 = true) : ∃ ccl cdd vs ccs file tf, K.lookup c = some ⟨ccl, cdd, .fields vs, ccs⟩ ∧ vs[2]? = some (.str file tf) ∧ (f0 == file) = true := by
  unfold codeFileIn at h
  split at h
  · rename_i a b vs d e
    split at h
    · rename_i f t e2
      exact ⟨a, b, vs, d, f, t, e, e2, h⟩
    · cases h
  · cases h
def cellIn (K : PySem.W.Frag) (c C : Addr) : Bool := match K.lookup c with
  | some ⟨_, _, .cell (some (.ref C')), _⟩ => C' == C
  | _ => false
theorem cell_of {K : PySem.W.Frag} {c C : Addr} (h : cellIn K c C = true) : ∃ cl cld csl, K.lookup c = some ⟨cl, cld, .cell (some (.ref C)), csl⟩ := by
  unfold cellIn at h
  split at h
  · rename_i a b C' d e
    have := beq_iff_eq.mp h
    subst this
    exact ⟨a, b, d, e⟩
  · cases h
theorem xini_mk {P : Program} {w : World} {K : PySem.W.Frag} {mg : Str → Option Value} {n fld qual : Str} {FI : EV} {C fI cc cda : Addr} {fd : FuncData}
    (hg : mg n = some (.ref C)) (q : PySem.W.excInitIn K C mVE "ValueError.__new__" = true) (hd : PySem.W.hasDictIn K C = true) (sa : PySem.W.findIn K (.ref C) "__setattr__" = some (some (.builtin "object.__setattr__")))
    (b : PySem.W.subIn K (.ref C) (.type "BaseException") = some true) (t : PySem.W.typeIn K (.ref C) = some (.type "type")) (kp : PySem.W.keepIn K (.ref C) = true)
    (ga : PySem.W.findIn K (.ref C) "__getattribute__" = some (some (.builtin "BaseException.__getattribute__"))) (gg : PySem.W.findIn K (.ref C) "__getattr__" = some none) (nof : PySem.W.findIn K (.ref C) fld = some none)
    (fi : PySem.W.findIn K (.ref C) "__init__" = some (some (.ref fI))) (ti : PySem.W.typeIn K (.ref fI) = some (.type "function"))
    (cd : PySem.W.codeIn K (.ref cda) qual = true) (cf : codeFileIn K cda P.main.file = true) (ce : cellIn K cc C = true) (mro : PySem.W.mroIn K C (.ref C) = some true) (sup : mg "super" = none)
    (ini : PySem.W.ks_superIn K C C "__init__" = some (some (.builtin "ValueError.__init__"))) (ve : PySem.W.subIn K (.ref C) (.type "ValueError") = some true) (any : PySem.W.nsIn K cStatics "thirdparty.any" = some none)
    (top : (P.main.scope.names.lookup ("super" : Str)).isSome = false) (bd : Binds K fd ["self", fld] [])
    (ok : SupK P K mg C cc cda fld qual → ∀ (k : Nat) (base : Heap), FnOk P w K mg base CX0 (k + 1) fI fd ["self", fld] (spInit C fld FI)) : XIni P w K mg n fld FI C := by
  have o := oex_mk q hd sa b t kp
  exact ⟨hg, o, ⟨ga, gg, b, hd⟩, nof, fI, fd, fi, ti, bd, ok ⟨o, cd, codeFile_of cf, cell_of ce, mro, sup, ini, ve, any, nof, top⟩⟩
section
variable {X : Cx} {W : WX} {e : Expr} {F FI : EV}
theorem es_raiseX {x fld : Str} {C : Addr} {k : Nat} {p p3 pos : Pos} (hc : X.calm = true) (tk : Takes X W) (T : XIni X.prog X.w X.K X.mg x fld FI C) (hr : Room (k + 2) X.A) (he : Ev X W e F) (hg : Gl X x := by rfl) (hdb : (x == ("__debug__" : Str)) = false := by decide)
    (hst : starEach [e] X.env = (false, eval e X.env) :: starEach [] X.env := by rfl) :
    Es X W (.Raise (some (.Call (.Name x p) [e] [] p3)) none pos) (sRaiseF x fld FI F) := by
  obtain ⟨fI, fd, a, b, c, d⟩ := T.ini
  exact es_raiseF hc tk T.oex a b (d k _) hr c T.glob he hg hdb hst
end
end PQ
namespace PQ
theorem tab_one {n : PySem.Str} : ∀ {tab : List (PySem.Str × Bool)} {y : PySem.Str}, tab.lookup y = some true → (tab.filter (·.2)).map (·.1) = [n] → y = n
  | [], _, h, _ => by cases h
  | (k, b) :: r, y, h, hn => by
    by_cases e : y = k
    · subst e
      have hb : b = true := by
        rw [List.lookup_cons_self] at h
        exact Option.some.inj h
      subst hb
      simp at hn
      exact hn.1
    · have e' : (y == k) = false := by simpa using e
      rw [List.lookup_cons, e'] at h
      cases b with
      | false => exact tab_one h (by simpa using hn)
      | true =>
        exfalso
        simp at hn
        have : ∀ {r : List (PySem.Str × Bool)}, (∀ a b, (a, b) ∈ r → b = false) → r.lookup y = some true → False := by
          intro r
          induction r with
          | nil => intro _ h; cases h
          | cons p r ih =>
            intro q h
            by_cases e2 : y = p.1
            · have : r.lookup y = r.lookup y := rfl
              obtain ⟨p1, p2⟩ := p
              dsimp only at e2
              subst e2
              rw [List.lookup_cons_self] at h
              have h1 := Option.some.inj h
              have h2 := q y p2 (by simp)
              rw [h1] at h2; cases h2
            · obtain ⟨p1, p2⟩ := p
              have e3 : (y == p1) = false := by simpa using e2
              rw [List.lookup_cons, e3] at h
              exact ih (fun a b hm => q a b (List.mem_cons_of_mem _ hm)) h
        refine this (fun a b hm => ?_) h
        have := hn.2
        cases b with
        | false => rfl
        | true => exact absurd hm (by simpa using this a)
end PQ
namespace PQ
open PySem
theorem xc_eq {mg : Str → Option Value} {n y : Str} {C C' : Addr} (g : mg n = some (.ref C')) (e : y = n) (hm : mg y = some (.ref C)) : C = C' := by
  subst e
  rw [g] at hm
  cases hm
  rfl
end PQ

/-! PQ.40: tables of sets of any size (2 ^ e slots) -/
namespace PQ
open PySem PySem.Spec PyProof.Rows L2
open PySem.SetTable (bits turns)

/-! ### i -> 5 i + 1 goes through all slots -/
def gs : Nat → Nat
  | 0 => 0
  | n + 1 => gs n * 5 + 1
theorem gs_pow : ∀ n, 4 * gs n + 1 = 5 ^ n
  | 0 => rfl
  | n + 1 => by
    have := gs_pow n
    rw [Nat.pow_succ, ← this, gs]
    omega
theorem gs_par : ∀ n, gs n % 2 = n % 2
  | 0 => rfl
  | n + 1 => by
    have := gs_par n
    rw [gs]
    omega
theorem gs_add (a b : Nat) : gs (a + b) = gs a * 5 ^ b + gs b := by
  induction b with
  | zero => rw [Nat.pow_zero, Nat.mul_one]; rfl
  | succ b ih =>
    show gs (a + b) * 5 + 1 = gs a * 5 ^ (b + 1) + (gs b * 5 + 1)
    rw [ih, Nat.pow_succ, Nat.add_mul, Nat.mul_assoc]
    omega
/-- an odd factor does not matter -/
theorem dvd_odd {e a b : Nat} (hb : b % 2 = 1) (h : 2 ^ e ∣ a * b) : 2 ^ e ∣ a := by
  refine Nat.Coprime.dvd_of_dvd_mul_right ?_ h
  refine Nat.Coprime.pow_left e ?_
  rw [Nat.coprime_iff_gcd_eq_one]
  have : Nat.gcd 2 b = 1 := by
    rw [Nat.gcd_rec, hb]; rfl
  exact this
theorem gs_dvd : ∀ e d : Nat, 2 ^ e ∣ gs d → 2 ^ e ∣ d
  | 0, d, _ => ⟨d, by rw [Nat.pow_zero, Nat.one_mul]⟩
  | e + 1, d, h => by
    have h2 : 2 ∣ gs d := Nat.dvd_trans ⟨2 ^ e, by rw [Nat.pow_succ, Nat.mul_comm]⟩ h
    have hp := gs_par d
    obtain ⟨c, rfl⟩ : ∃ c, d = c + c := ⟨d / 2, by omega⟩
    have q := gs_pow c
    have e1 : gs (c + c) = 2 * (gs c * (2 * gs c + 1)) := by
      rw [gs_add, ← q]
      generalize gs c = g
      rw [Nat.mul_add, Nat.mul_add, Nat.mul_one]
      have : g * (4 * g) = 2 * (g * (2 * g)) := by
        rw [Nat.mul_left_comm, Nat.mul_left_comm g 2 g]; omega
      omega
    rw [e1, Nat.pow_succ, Nat.mul_comm (2 ^ e) 2] at h
    have h3 := dvd_odd (by omega) (Nat.dvd_of_mul_dvd_mul_left (by omega) h)
    obtain ⟨k, hk⟩ := gs_dvd e c h3
    exact ⟨k, by rw [Nat.pow_succ]; rw [Nat.mul_comm (2 ^ e) 2, Nat.mul_assoc]; omega⟩
theorem lcgI_mod (m i : Nat) : ∀ q, lcgI m i q % (m + 1) = (5 ^ q * i + gs q) % (m + 1)
  | 0 => by show i % (m + 1) = (5 ^ 0 * i + 0) % (m + 1); rw [Nat.pow_zero, Nat.one_mul]; rfl
  | q + 1 => by
    show ((lcgI m i q * 5 + 1) % (m + 1)) % (m + 1) = _
    rw [Nat.mod_mod, Nat.add_mod, Nat.mul_mod, lcgI_mod m i q, ← Nat.mul_mod, ← Nat.add_mod]
    congr 1
    show (5 ^ q * i + gs q) * 5 + 1 = 5 ^ (q + 1) * i + (gs q * 5 + 1)
    rw [Nat.pow_succ, Nat.add_mul, Nat.mul_right_comm]
    omega
theorem lcgI_le {m i : Nat} (hi : i ≤ m) : ∀ q, lcgI m i q ≤ m
  | 0 => hi
  | q + 1 => Nat.le_of_lt_succ (Nat.mod_lt _ (Nat.succ_pos _))
theorem lcgI_shift (m i : Nat) (a : Nat) : ∀ d, lcgI m i (a + d) = lcgI m (lcgI m i a) d
  | 0 => rfl
  | d + 1 => by
    show (lcgI m i (a + d) * 5 + 1) % (m + 1) = (lcgI m (lcgI m i a) d * 5 + 1) % (m + 1)
    rw [lcgI_shift m i a d]
theorem lcg_back {m e x d : Nat} (hm : m + 1 = 2 ^ e) (hd : 0 < d) (hd2 : d ≤ m) (h : lcgI m x d % (m + 1) = x % (m + 1)) : False := by
  rw [lcgI_mod] at h
  have q := gs_pow d
  have e1 : 5 ^ d * x + gs d = x + gs d * (4 * x + 1) := by
    rw [← q]
    generalize gs d = g
    rw [Nat.add_mul, Nat.mul_add, Nat.one_mul, Nat.mul_one]
    have : 4 * g * x = g * (4 * x) := by rw [Nat.mul_comm 4 g, Nat.mul_assoc]
    omega
  rw [e1] at h
  have hdv : (m + 1) ∣ gs d * (4 * x + 1) := by
    have := Nat.sub_mod_eq_zero_of_mod_eq h
    rw [Nat.add_sub_cancel_left] at this
    exact Nat.dvd_of_mod_eq_zero this
  rw [hm] at hdv
  have h3 := gs_dvd e d (dvd_odd (by omega) hdv)
  have := Nat.le_of_dvd hd h3
  omega
theorem lcgI_inj {m e i : Nat} (hm : m + 1 = 2 ^ e) (hi : i ≤ m) {a b : Nat} (ha : a ≤ m) (hb : b ≤ m) (h : lcgI m i a = lcgI m i b) : a = b := by
  have key : ∀ a b : Nat, a < b → b ≤ m → lcgI m i a = lcgI m i b → False := by
    intro a b hlt hb h
    obtain ⟨d, rfl⟩ : ∃ d, b = a + d := ⟨b - a, by omega⟩
    rw [lcgI_shift] at h
    exact lcg_back hm (d := d) (by omega) (by omega) (congrArg (· % (m + 1)) h.symm)
  rcases Nat.lt_trichotomy a b with c | c | c
  · exact (key a b c hb h).elim
  · exact c
  · exact (key b a c ha h.symm).elim
/-! ### the first free slot -/
/-- masks of tables -/
def PMask (m : Nat) : Prop := ∃ e, m + 1 = 2 ^ e
/-- some run begins at a slot that is none of so many -/
theorem run_free {m : Nat} (hm : PMask m) (h : Int) {taken : List Nat} (hl : taken.length ≤ m) : ∃ n, n ≤ taken.length + 12 ∧ runI m (bits h) n ∉ taken := by
  obtain ⟨e, he⟩ := hm
  have hi := runI_le m (bits h) 12
  have nd : ((List.range (taken.length + 1)).map (lcgI m (runI m (bits h) 12))).Nodup := by
    refine List.pairwise_map.mpr ?_
    refine List.Pairwise.imp_of_mem (fun {a b} ha hb hne z => hne ?_) List.nodup_range
    have ha := List.mem_range.mp ha
    have hb := List.mem_range.mp hb
    exact lcgI_inj he hi (by omega) (by omega) z
  rcases Classical.em (∃ x ∈ (List.range (taken.length + 1)).map (lcgI m (runI m (bits h) 12)), x ∉ taken) with ⟨x, hx, hn⟩ | c
  · obtain ⟨q, hq, rfl⟩ := List.mem_map.mp hx
    have hq := List.mem_range.mp hq
    exact ⟨12 + q, by omega, by rw [runI_tail (bits_lt h)]; exact hn⟩
  · exfalso
    have := nat_nodup_len _ taken nd fun x hx => by
      rcases Classical.em (x ∈ taken) with k | k
      · exact k
      · exact absurd ⟨x, hx, k⟩ c
    simp at this
    omega
theorem way_le' {m : Nat} {h : Int} {k : Nat} : way m h k ≤ m := by
  have hi : bits h % (m + 1) ≤ m := Nat.le_of_lt_succ (Nat.mod_lt _ (Nat.succ_pos _))
  have r := runEnd_bd hi
  have q := nth_in (m := m) k (runAt m (bits h % (m + 1)) (bits h)) (by
    show bits h % (m + 1) + (SetTable.runEnd m (bits h % (m + 1)) - bits h % (m + 1)) ≤ m
    omega)
  show (nth m (runAt m (bits h % (m + 1)) (bits h)) k).j ≤ m
  omega
/-- a table whose slots all are found again from their hashes -/
structure TabG (t : SetTable) (hs : List Int) : Prop where
  ris : Ris t.place.toList
  dm : t.dummies = #[]
  sz : t.place.size = hs.length
  pm : PMask t.mask
  m7 : 7 ≤ t.mask
  bd : ∀ x ∈ t.place.toList, x ≤ t.mask
  reach : ∀ (i : Nat) (h : Int) (j : Nat), hs[i]? = some h → t.place.toList[i]? = some j → ∃ k, way t.mask h k = j ∧ ∀ k', k' < k → way t.mask h k' ∈ t.place.toList
theorem pmask_odd {m : Nat} (h : PMask m) (h7 : 7 ≤ m) : m % 2 = 1 := by
  obtain ⟨e, he⟩ := h
  cases e with
  | zero => rw [Nat.pow_zero] at he; omega
  | succ e => rw [Nat.pow_succ] at he; omega
theorem TabG.first {t : SetTable} {hs : List Int} (T : TabG t hs) (hl : hs.length ≤ t.mask) (h : Int) : ∃ K, K ≤ 10 * (hs.length + 12) ∧ way t.mask h K ∉ t.place.toList ∧ ∀ k, k < K → way t.mask h k ∈ t.place.toList := by
  have hz : t.place.toList.length = hs.length := by rw [Array.length_toList]; exact T.sz
  obtain ⟨n, hn, hf⟩ := run_free T.pm h (taken := t.place.toList) (by omega)
  obtain ⟨k, hk, e⟩ := run_nth t.mask (bits h) n
  obtain ⟨K, h1, h2, h3⟩ := st_least (p := fun k => way t.mask h k ∉ t.place.toList) k (by
    show way t.mask h k ∉ _
    have : way t.mask h k = runI t.mask (bits h) n := by show (nth _ _ k).j = _; rw [e]; rfl
    rw [this]; exact hf)
  refine ⟨K, by omega, h2, fun k' hk' => ?_⟩
  rcases Classical.em (way t.mask h k' ∈ t.place.toList) with c | c
  · exact c
  · exact absurd c (h3 k' hk')
theorem TabG.before {t : SetTable} {hs : List Int} (T : TabG t hs) {h : Int} {K i j : Nat} (hK : way t.mask h K ∉ t.place.toList) (hi : hs[i]? = some h) (hj : t.place.toList[i]? = some j) : ∃ k, k < K ∧ way t.mask h k = j := by
  obtain ⟨k, e, hb⟩ := T.reach i h j hi hj
  refine ⟨k, ?_, e⟩
  rcases Nat.lt_trichotomy k K with c | c | c
  · exact c
  · rw [← c, e] at hK
    exact absurd (List.mem_of_getElem? hj) hK
  · exact absurd (hb K c) hK
/-- one more is put in -/
theorem TabG.put {t : SetTable} {hs : List Int} (T : TabG t hs) {h : Int} {K : Nat} (hK : way t.mask h K ∉ t.place.toList) (hb : ∀ k, k < K → way t.mask h k ∈ t.place.toList) :
    ∃ p, (t.put (way t.mask h K)).2 = p ∧ p ≤ hs.length ∧ TabG (t.put (way t.mask h K)).1 (hs.take p ++ h :: hs.drop p) ∧
    (t.put (way t.mask h K)).1.mask = t.mask ∧ (t.put (way t.mask h K)).1.led = t.led ∧ (t.put (way t.mask h K)).1.plain = t.plain ∧ (t.put (way t.mask h K)).1.fill = hs.length + 1 := by
  have hjm : way t.mask h K ≤ t.mask := way_le'
  generalize hj : way t.mask h K = j at hK hjm ⊢
  obtain ⟨c1, _, _⟩ := below_cut T.ris j
  have hsz : t.place.toList.length = hs.length := by rw [Array.length_toList]; exact T.sz
  have hpl : SetTable.below t.place j ≤ t.place.toList.length := by rw [Array.length_toList]; exact c1
  have hph : SetTable.below t.place j ≤ hs.length := by rw [← hsz]; exact hpl
  have hnp : t.place[SetTable.below t.place j]? ≠ some j := fun e => hK (List.mem_of_getElem? (by rw [Array.getElem?_toList]; exact e))
  have hpp := put_place t j
  have hsize : (t.put j).1.place.size = hs.length + 1 := by rw [← Array.length_toList, hpp, len_ins _ hpl, hsz]
  have up : ∀ {x : Nat}, x ∈ t.place.toList → x ∈ (t.put j).1.place.toList := fun {x} hx => by rw [hpp]; exact mem_ins.2 (.inr hx)
  refine ⟨SetTable.below t.place j, rfl, hph, ⟨ris_insert T.ris hnp, put_dm T.dm j, by rw [len_ins _ hph]; exact hsize, T.pm, T.m7, fun x hx => ?_, fun i h' j' h1 h2 => ?_⟩, rfl, rfl, rfl, ?_⟩
  · rw [hpp] at hx
    rcases mem_ins.1 hx with rfl | z
    · exact hjm
    · exact T.bd x z
  · rw [tins_get hs hph] at h1
    rw [hpp, tins_get _ hpl] at h2
    have old : ∀ i, hs[i]? = some h' → t.place.toList[i]? = some j' → ∃ k, way t.mask h' k = j' ∧ ∀ k', k' < k → way t.mask h' k' ∈ (t.put j).1.place.toList := fun i a b => by
      obtain ⟨k, e, z⟩ := T.reach i h' j' a b
      exact ⟨k, e, fun k' hk' => up (z k' hk')⟩
    show ∃ k, way t.mask h' k = j' ∧ ∀ k', k' < k → way t.mask h' k' ∈ (t.put j).1.place.toList
    by_cases c : i < SetTable.below t.place j
    · rw [if_pos c] at h1 h2
      exact old i h1 h2
    · rw [if_neg c] at h1 h2
      by_cases d : i = SetTable.below t.place j
      · rw [if_pos d] at h1 h2
        cases h1; cases h2
        exact ⟨K, hj, fun k' hk' => up (hb k' hk')⟩
      · rw [if_neg d] at h1 h2
        exact old (i - 1) h1 h2
  · show (t.put j).1.place.size + (t.put j).1.dummies.size = hs.length + 1
    rw [hsize, put_dm T.dm j]; rfl
/-! ### laying anew -/
theorem free_g {m : Nat} (hm : PMask m) (owner : Array (Option Nat)) (h : Int) {taken : List Nat} (hl : taken.length ≤ m) (ht : ∀ j, j ≤ m → oAt owner j ≠ none → j ∈ taken) :
    ∃ K, SetTable.layClean.free m owner (turns m) (bits h % (m + 1)) (bits h) = some (way m h K) ∧ oAt owner (way m h K) = none ∧ ∀ k, k < K → oAt owner (way m h k) ≠ none := by
  obtain ⟨n, hn, hf⟩ := run_free hm h hl
  have h0 : oAt owner (runI m (bits h) n) = none := by
    rcases Classical.em (oAt owner (runI m (bits h) n) = none) with c | c
    · exact c
    · exact absurd (ht _ (runI_le m (bits h) n) c) hf
  have hw : way m h (off m (bits h % (m + 1)) (bits h) n) = runI m (bits h) n := by
    show (nth m (runAt m (bits h % (m + 1)) (bits h)) (off m (bits h % (m + 1)) (bits h) n)).j = _
    rw [nth_off, itL_run]; rfl
  obtain ⟨K, k1, k2, k3⟩ := st_least (p := fun k => oAt owner (way m h k) = none) (off m (bits h % (m + 1)) (bits h) n) (by rw [hw]; exact h0)
  refine ⟨K, ?_, k2, k3⟩
  refine free_spec m owner (turns m) n _ _ K (by unfold turns; omega) k1 (fun k hk => ?_) ?_
  · have q := k3 k hk
    cases z : oAt owner (nth m (runAt m (bits h % (m + 1)) (bits h)) k).j with
    | none => exact absurd z q
    | some _ => rfl
  · have q : oAt owner (nth m (runAt m (bits h % (m + 1)) (bits h)) K).j = none := k2
    rw [q]; rfl
theorem own_step {m : Nat} (hm : PMask m) {done : List Int} {owner : Array (Option Nat)} (W : L2.Own m done owner) (hl : done.length ≤ m) (h : Int) :
    ∃ j, SetTable.layClean.free m owner (turns m) (bits h % (m + 1)) (bits h) = some j ∧ L2.Own m (done ++ [h]) (owner.setIfInBounds j (some done.length)) := by
  obtain ⟨ps, hps, hin⟩ := W.ps
  obtain ⟨K, e1, e2, e3⟩ := free_g hm owner h (taken := ps) (by omega) hin
  have hjm : way m h K ≤ m := way_le'
  have hjs : way m h K < owner.size := by rw [W.sz]; exact Nat.lt_succ_of_le hjm
  refine ⟨way m h K, e1, ?_⟩
  have hself := oAt_set_self (some done.length) hjs
  have mono : ∀ {i : Nat}, oAt owner i ≠ none → oAt (owner.setIfInBounds (way m h K) (some done.length)) i ≠ none := fun {i} hi => by
    by_cases c : i = way m h K
    · rw [c, hself]; exact fun e => nomatch e
    · rw [oAt_set_ne _ c]; exact hi
  constructor
  · rw [Array.size_setIfInBounds]; exact W.sz
  · intro j k hj e
    by_cases c : j = way m h K
    · subst c
      rw [hself] at e
      cases e
      exact ⟨h, K, by simp, rfl, fun k' hk' => mono (e3 k' hk')⟩
    · rw [oAt_set_ne _ c] at e
      obtain ⟨h', K', a1, a2, a3⟩ := W.at_ j k hj e
      refine ⟨h', K', ?_, a2, fun k' hk' => mono (a3 k' hk')⟩
      rw [List.getElem?_append_left (List.getElem?_eq_some_iff.mp a1).1]
      exact a1
  · intro k hk
    rw [List.length_append, List.length_singleton] at hk
    rcases Nat.lt_or_ge k done.length with c | c
    · obtain ⟨j, hj, e⟩ := W.all k c
      refine ⟨j, hj, ?_⟩
      rw [oAt_set_ne _ (fun z => by rw [z, e2] at e; cases e)]
      exact e
    · have ek : k = done.length := by omega
      rw [ek]
      exact ⟨way m h K, hjm, hself⟩
  · refine ⟨way m h K :: ps, by simp [hps], fun j hj e => ?_⟩
    by_cases c : j = way m h K
    · rw [c]; exact List.mem_cons_self
    · rw [oAt_set_ne _ c] at e
      exact List.mem_cons_of_mem _ (hin j hj e)
theorem fold_g {m : Nat} (hm : PMask m) : ∀ (rest done : List Int) (owner : Array (Option Nat)), L2.Own m done owner → done.length + rest.length ≤ m →
    ∃ owner', rest.foldl (stepF m) (some (owner, done.length)) = some (owner', (done ++ rest).length) ∧ L2.Own m (done ++ rest) owner'
  | [], done, owner, W, _ => ⟨owner, by simp, by simpa using W⟩
  | h :: rest, done, owner, W, hl => by
    rw [List.length_cons] at hl
    obtain ⟨j, e, W'⟩ := own_step hm W (by omega) h
    obtain ⟨owner', f, W2⟩ := fold_g hm rest (done ++ [h]) _ W' (by simp; omega)
    have ea : done ++ [h] ++ rest = done ++ h :: rest := by simp
    rw [ea] at f W2
    refine ⟨owner', ?_, W2⟩
    rw [List.foldl_cons, stepF_some e]
    simpa using f
theorem layClean_g {m : Nat} (hm : PMask m) {hs : Array Int} (hn : hs.size ≤ m) : ∃ owner, SetTable.layClean m hs = some owner ∧ L2.Own m hs.toList owner := by
  obtain ⟨owner, f, W⟩ := fold_g hm hs.toList [] _ (L2.Own.init m) (by simpa using hn)
  refine ⟨owner, ?_, by simpa using W⟩
  have f' : hs.toList.foldl (stepF m) (some (Array.replicate (m + 1) none, 0)) = some (owner, ([] ++ hs.toList).length) := f
  rw [layClean_eq, f']; rfl
theorem relaid_g (t : SetTable) {hs : Array Int} {wanted M : Nat} (hw : SetTable.sizeAbove wanted - 1 = M) (hM : PMask M) (h7 : 7 ≤ M) (hn : hs.size ≤ M) :
    ∃ t' order, t.relaid hs wanted = some (t', order) ∧ order.toList.Perm (List.range hs.size) ∧ TabG t' (order.toList.map fun i => hs.getD i 0) ∧ t'.mask = M ∧ t'.led = t.led ∧ t'.plain = t.plain := by
  obtain ⟨owner, e, W⟩ := layClean_g hM hn
  have hr : t.relaid hs wanted = some (tabOf t M owner, ((liveOf M owner).map (·.2)).toArray) := by rw [relaid_eq, hw, e]; rfl
  obtain ⟨r1, r2⟩ := ris_live (fun j => owner.getD j none) (List.range (M + 1)) (by
    unfold Ris
    first | exact List.pairwise_lt_range | exact List.pairwise_lt_range _)
  have r1 : Ris ((liveOf M owner).map (·.1)) := r1
  have r2 : ∀ x ∈ (liveOf M owner).map (·.1), x ∈ List.range (M + 1) := r2
  have nd : ((liveOf M owner).map (·.1)).Nodup := List.Pairwise.imp (fun h => Nat.ne_of_lt h) r1
  have hlen : (liveOf M owner).length = hs.size := by
    obtain ⟨ps, p1, p2⟩ := W.ps
    have a := nat_nodup_len ((liveOf M owner).map (·.1)) ps nd fun x hx => by
      obtain ⟨⟨y, k⟩, hq, rfl⟩ := List.mem_map.mp hx
      obtain ⟨b1, b2⟩ := (mem_live W.sz).1 hq
      exact p2 y b1 (by rw [b2]; exact fun z => nomatch z)
    have b := nat_nodup_len (List.range hs.size) ((liveOf M owner).map (·.2)) List.nodup_range fun k hk => by
      obtain ⟨j, b1, b2⟩ := W.all k (by rw [Array.length_toList]; exact List.mem_range.mp hk)
      exact List.mem_map.mpr ⟨(j, k), (mem_live W.sz).2 ⟨b1, b2⟩, rfl⟩
    rw [List.length_map, p1] at a
    rw [List.length_map, List.length_range] at b
    have hz : hs.toList.length = hs.size := rfl
    omega
  refine ⟨tabOf t M owner, ((liveOf M owner).map (·.2)).toArray, hr, ?_, ⟨r1, rfl, ?_, hM, h7, fun x hx => ?_, fun i h j h1 h2 => ?_⟩, rfl, rfl, rfl⟩
  · refine perm_range hs.size _ ?_ fun k hk => ?_
    · show ((liveOf M owner).map (·.2)).length = hs.size
      rw [List.length_map]; exact hlen
    · obtain ⟨j, b1, b2⟩ := W.all k (by rw [Array.length_toList]; exact hk)
      exact List.mem_map.mpr ⟨(j, k), (mem_live W.sz).2 ⟨b1, b2⟩, rfl⟩
  · show ((liveOf M owner).map (·.1)).toArray.size = (((liveOf M owner).map (·.2)).map fun i => hs.getD i 0).length
    simp
  · exact Nat.le_of_lt_succ (List.mem_range.mp (r2 x hx))
  · have h1 : (((liveOf M owner).map (·.2)).map fun i => hs.getD i 0)[i]? = some h := h1
    have h2 : ((liveOf M owner).map (·.1))[i]? = some j := h2
    rw [List.getElem?_map, List.getElem?_map] at h1
    rw [List.getElem?_map] at h2
    cases hq : (liveOf M owner)[i]? with
    | none => rw [hq] at h2; cases h2
    | some q =>
      obtain ⟨y, k⟩ := q
      rw [hq] at h1 h2
      have ej : y = j := Option.some.inj h2
      have eh : hs.getD k 0 = h := Option.some.inj h1
      subst ej
      obtain ⟨b1, b2⟩ := (mem_live W.sz).1 (List.mem_of_getElem? hq)
      obtain ⟨h0, K, a1, a2, a3⟩ := W.at_ y k b1 b2
      have e0 : hs.getD k 0 = h0 := by
        rw [Array.getD_eq_getD_getElem?, ← Array.getElem?_toList, a1]; rfl
      have ehh : h0 = h := e0.symm.trans eh
      subst ehh
      refine ⟨K, a2, fun k' hk' => ?_⟩
      show way M h0 k' ∈ (liveOf M owner).map (·.1)
      cases z : oAt owner (way M h0 k') with
      | none => exact absurd z (a3 k' hk')
      | some k2 => exact List.mem_map.mpr ⟨(way M h0 k', k2), (mem_live W.sz).2 ⟨way_le', z⟩, rfl⟩
/-! ### how large the new table is -/
theorem above_go : ∀ (f n e : Nat), n < 2 ^ (e + f) → ∃ e', e ≤ e' ∧ SetTable.sizeAbove.go n f (2 ^ e) = 2 ^ e' ∧ n < 2 ^ e' ∧ (e' = e ∨ 2 ^ e' ≤ 2 * n)
  | 0, n, e, h => ⟨e, Nat.le_refl _, rfl, h, .inl rfl⟩
  | f + 1, n, e, h => by
    unfold SetTable.sizeAbove.go
    by_cases c : 2 ^ e ≤ n
    · rw [if_pos c, show 2 ^ e * 2 = 2 ^ (e + 1) from rfl]
      obtain ⟨e', h1, h2, h3, h4⟩ := above_go f n (e + 1) (by rwa [show e + 1 + f = e + (f + 1) by omega])
      refine ⟨e', by omega, h2, h3, .inr ?_⟩
      rcases h4 with rfl | h4
      · rw [Nat.pow_succ]; omega
      · exact h4
    · rw [if_neg c]
      exact ⟨e, Nat.le_refl _, rfl, by omega, .inl rfl⟩
theorem sizeAbove_spec {n : Nat} (h : n ≤ 1000000) : ∃ e, SetTable.sizeAbove n = 2 ^ e ∧ 3 ≤ e ∧ n < 2 ^ e ∧ (e = 3 ∨ 2 ^ e ≤ 2 * n) := by
  obtain ⟨e, h1, h2, h3, h4⟩ := above_go 64 n 3 (Nat.lt_of_le_of_lt h (by decide))
  exact ⟨e, h2, h1, h3, h4⟩
end PQ

/-! PQ.41: sets of tuples of any kind: searching, adding -/
namespace PQ
open PySem PySem.Spec PyProof.Rows L2
open PySem.SetTable (bits turns)

section
variable {P : Program} {w : World} {A : Around} {E : Value → Shared → Prop} {s : Shared}
/-- asked of a value, the question leaves all as it is -/
def AskAt (P : Program) (w : World) (f : Value → Sem Bool) (B : Bool → Prop) (s : Shared) (v : Value) : Prop := ∀ (A : Around) (E : Value → Shared → Prop) (Q : Bool → Shared → Prop), (∀ b, B b → Q b s) → wpAny (model P w) A (f v) Q E s
theorem ask_tup_a {n : Nat} {a : Addr} {o : Obj} {vs : Array Value} {m : Nat} (ho : s.heap.get? a = some o) (hc : o.cls = .type "tuple") (hd : o.data = .seq vs m) (hq : ∀ v ∈ vs.toList, AskAt P w (ofAClassStatement n) (· = false) s v) : AskAt P w (ofAClassStatement (n + 1)) (· = false) s (.ref a) := fun A E Q h => by
  have hT : s.TypeIs (.ref a) "tuple" := ⟨o, ho, hc⟩
  unfold ofAClassStatement
  refine wpAny_bind (wpAny_typeOf hT ?_)
  dsimp only
  have e : (("tuple" : String) == "tuple") = true := by decide
  simp only [e, if_true, Bool.not_true, Bool.false_eq_true, if_false]
  try refine wpAny_bind (wpAny_pure ?_)
  try simp only [Bool.not_true, Bool.false_eq_true, if_false]
  show wpAny _ _ (seqItems? (.ref a) >>= _) _ _ s
  refine wpAny_bind (wpAny_seqItems ho hd ?_)
  dsimp only
  refine wpAny_bind ?_
  show wpAny _ _ (forIn vs _ _) _ _ s
  rw [← Array.forIn_toList]
  refine wpAny_forIn_list _ (fun rest r s' => r.1 = none ∧ s' = s ∧ ∀ v ∈ rest, AskAt P w (ofAClassStatement n) (· = false) s v) _ ?_ ?_ _ _ ⟨rfl, rfl, hq⟩
  · rintro v rest r s' ⟨hr, rfl, hall⟩
    refine wpAny_bind (hall v List.mem_cons_self _ _ _ ?_)
    rintro b rfl
    simp only [Bool.false_eq_true, if_false]
    exact wpAny_pure ⟨rfl, rfl, fun u hu' => hall u (List.mem_cons_of_mem _ hu')⟩
  · rintro ⟨r1, r2⟩ s' ⟨hr, rfl, _⟩
    simp only at hr
    subst hr
    exact wpAny_pure (h _ rfl)
theorem ask_tup_h {n : Nat} {a : Addr} {o : Obj} {vs : Array Value} {m : Nat} (ho : s.heap.get? a = some o) (hc : o.cls = .type "tuple") (hd : o.data = .seq vs m) (hq : ∀ v ∈ vs.toList, AskAt P w (hashByValue n) (fun _ => True) s v) : AskAt P w (hashByValue (n + 1)) (fun _ => True) s (.ref a) := fun A E Q h => by
  have hT : s.TypeIs (.ref a) "tuple" := ⟨o, ho, hc⟩
  unfold hashByValue
  refine wpAny_bind (wpAny_specialOf hT F.slot_tuple_hash.lookup ?_)
  show wpAny _ _ (seqItems? (.ref a) >>= _) _ _ s
  refine wpAny_bind (wpAny_seqItems ho hd ?_)
  refine wpAny_bind ?_
  show wpAny _ _ (forIn vs _ _) _ _ s
  rw [← Array.forIn_toList]
  refine wpAny_forIn_list _ (fun rest r s' => r.1 = none ∧ s' = s ∧ ∀ v ∈ rest, AskAt P w (hashByValue n) (fun _ => True) s v) _ ?_ ?_ _ _ ⟨rfl, rfl, hq⟩
  · rintro v rest r s' ⟨hr, rfl, hall⟩
    refine wpAny_bind (hall v List.mem_cons_self _ _ _ ?_)
    intro b _
    cases b
    · simp only [Bool.not_false, if_true]
      refine wpAny_pure ?_
      exact wpAny_pure (h _ trivial)
    · simp only [Bool.not_true, Bool.false_eq_true, if_false]
      exact wpAny_pure ⟨rfl, rfl, fun u hu' => hall u (List.mem_cons_of_mem _ hu')⟩
  · rintro ⟨r1, r2⟩ s' ⟨hr, rfl, _⟩
    simp only at hr
    subst hr
    exact wpAny_pure (h _ trivial)
mutual
theorem ofA_key : ∀ (k : NestedKey) (v : Value) (n : Nat), NestedIs s.heap k v → k.depth ≤ n → AskAt P w (ofAClassStatement n) (· = false) s v
  | .none, _, n, x, _ => by cases x; intro A E Q h; rw [show ofAClassStatement n .none = pure false by cases n <;> rfl]; exact wpAny_pure (h _ rfl)
  | .num i, _, n, x, _ => by
    cases x
    · intro A E Q h; rename_i b _; rw [show ofAClassStatement n (.bool b) = pure false by cases n <;> rfl]; exact wpAny_pure (h _ rfl)
    · intro A E Q h; rename_i t; rw [show ofAClassStatement n (.int i t) = pure false by cases n <;> rfl]; exact wpAny_pure (h _ rfl)
  | .text y, _, n, x, _ => by cases x; intro A E Q h; rename_i t; rw [show ofAClassStatement n (.str y t) = pure false by cases n <;> rfl]; exact wpAny_pure (h _ rfl)
  | .tup ks, _, n, x, hn => by
    cases x with
    | tup hg hc hd hk =>
      simp only [NestedKey.depth] at hn
      cases n with
      | zero => omega
      | succ n => exact ask_tup_a hg hc hd (ofA_keys ks _ n hk (by omega))
theorem ofA_keys : ∀ (ks : List NestedKey) (vs : List Value) (n : Nat), NestedAll s.heap ks vs → NestedKey.depthAll ks ≤ n → ∀ v ∈ vs, AskAt P w (ofAClassStatement n) (· = false) s v
  | [], _, n, x, _, v, hv => by cases x; cases hv
  | k :: ks, _, n, x, hn, v, hv => by
    cases x with
    | cons x1 x2 =>
      simp only [NestedKey.depthAll] at hn
      rcases List.mem_cons.mp hv with e | hv
      · rw [e]; exact ofA_key k _ n x1 (by omega)
      · exact ofA_keys ks _ n x2 (by omega) v hv
end
mutual
theorem hb_key : ∀ (k : NestedKey) (v : Value) (n : Nat), NestedIs s.heap k v → k.depth ≤ n → AskAt P w (hashByValue n) (fun _ => True) s v
  | .none, _, n, x, _ => by cases x; intro A E Q h; rw [show hashByValue n .none = pure true by cases n <;> rfl]; exact wpAny_pure (h _ trivial)
  | .num i, _, n, x, _ => by
    cases x
    · intro A E Q h; rename_i b _; rw [show hashByValue n (.bool b) = pure true by cases n <;> rfl]; exact wpAny_pure (h _ trivial)
    · intro A E Q h; rename_i t; rw [show hashByValue n (.int i t) = pure true by cases n <;> rfl]; exact wpAny_pure (h _ trivial)
  | .text y, _, n, x, _ => by cases x; intro A E Q h; rename_i t; rw [show hashByValue n (.str y t) = pure false by cases n <;> rfl]; exact wpAny_pure (h _ trivial)
  | .tup ks, _, n, x, hn => by
    cases x with
    | tup hg hc hd hk =>
      simp only [NestedKey.depth] at hn
      cases n with
      | zero => omega
      | succ n => exact ask_tup_h hg hc hd (hb_keys ks _ n hk (by omega))
theorem hb_keys : ∀ (ks : List NestedKey) (vs : List Value) (n : Nat), NestedAll s.heap ks vs → NestedKey.depthAll ks ≤ n → ∀ v ∈ vs, AskAt P w (hashByValue n) (fun _ => True) s v
  | [], _, n, x, _, v, hv => by cases x; cases hv
  | k :: ks, _, n, x, hn, v, hv => by
    cases x with
    | cons x1 x2 =>
      simp only [NestedKey.depthAll] at hn
      rcases List.mem_cons.mp hv with e | hv
      · rw [e]; exact hb_key k _ n x1 (by omega)
      · exact hb_keys ks _ n x2 (by omega) v hv
end
/-- the tuple at a is the key k -/
abbrev IsN (P : Program) (w : World) (h : Heap) (k : NestedKey) (a : Addr) : Prop := (nestedKind P w).is h k a
abbrev hN (w : World) (k : NestedKey) : Int := NestedKey.hash w k
theorem isN_of {h h' : Heap} {k : NestedKey} {b : Addr} (hb : IsN P w h k b) (hs : ∀ a o vs n, h.get? a = some o → o.data = .seq vs n → h'.get? a = some o) : IsN P w h' k b := ⟨NestedIs.at hs _ _ hb.1, hb.2⟩
theorem isN_same {h h' : Heap} {k : NestedKey} {a b : Addr} {o : Obj} {es : Array (Int × Value)} {ep : Nat} {t : SetTable} (hb : IsN P w h k b) (ho : h.get? a = some o) (hd : o.data = .set es ep t) (hs : Heap.SameBut a h h') : IsN P w h' k b :=
  isN_of hb fun c u vs n e1 e2 => by
    refine (hs.2 c fun z => ?_).trans e1
    subst z
    rw [ho] at e1
    cases e1
    rw [hd] at e2
    cases e2
theorem isN_keep {h h' : Heap} {k : NestedKey} {b : Addr} (x : IsN P w h k b) (hk : ∀ c o, h.get? c = some o → h'.get? c = some o) : IsN P w h' k b := isN_of x fun c u vs n e _ => hk c u e
theorem seen_n {k : NestedKey} {b : Addr} {Q : Bool → Shared → Prop} (hk : IsN P w s.heap k b) {ys : List Value} (hy : ∀ y ∈ ys, ∃ k' c, y = Value.ref c ∧ IsN P w s.heap k' c) (h : Q false s) :
    wpAny (model P w) A (searchCouldBeSeen (.ref b) ys) Q E s := by
  unfold searchCouldBeSeen
  refine wpAny_bind ?_
  refine wpAny_forIn_list _ (fun rest r s' => r.1 = none ∧ s' = s ∧ ∀ y ∈ rest, ∃ k' c, y = Value.ref c ∧ IsN P w s.heap k' c) _ ?_ ?_ _ _ ⟨rfl, rfl, hy⟩
  · rintro v rest r s' ⟨hr, rfl, hall⟩
    obtain ⟨k', c, rfl, hc⟩ := hall v List.mem_cons_self
    have rest' : ∀ y ∈ rest, ∃ k' c, y = Value.ref c ∧ IsN P w s'.heap k' c := fun u hu' => hall u (List.mem_cons_of_mem _ hu')
    dsimp only
    by_cases hv : (b == c || (carriedByValue (.ref b) && carriedByValue (.ref c))) = true
    · refine wp_if_pos hv ?_
      exact wpAny_pure ⟨rfl, rfl, rest'⟩
    · refine wp_if_neg hv ?_
      refine wpAny_bind ((nestedKind P w).quiet hk ?_)
      simp only [Bool.not_true, Bool.false_eq_true, if_false]
      refine wpAny_bind ((nestedKind P w).quiet hc ?_)
      simp only [Bool.not_true, Bool.false_eq_true, if_false]
      refine wpAny_bind (ofA_key k _ 8 hk.1 hk.2 _ _ _ ?_)
      rintro _ rfl
      simp only [Bool.false_eq_true, if_false]
      refine wpAny_bind (ofA_key k' _ 8 hc.1 hc.2 _ _ _ ?_)
      rintro _ rfl
      simp only [Bool.false_eq_true, if_false]
      exact wpAny_pure ⟨rfl, rfl, rest'⟩
  · rintro ⟨r1, r2⟩ s' ⟨hr, rfl, _⟩
    simp only at hr
    subst hr
    exact wpAny_pure h
end
end PQ

/-! PQ.42: a set of tuples: the search, adding, laying anew -/
namespace PQ
open PySem PySem.Spec PyProof.Rows L2
open PySem.SetTable (bits turns)

abbrev KeyL := List (Addr × NestedKey)
def rowsN (w : World) (L : KeyL) : List (Int × Value) := L.map fun p => (hN w p.2, Value.ref p.1)
structure SetN (P : Program) (w : World) (h : Heap) (a : Addr) (L : KeyL) (es : Array (Int × Value)) (ep : Nat) (t : SetTable) : Prop where
  ob : ∃ o, h.get? a = some o ∧ o.ExactSet ∧ o.data = .set es ep t
  rows : es.toList = rowsN w L
  tab : TabG t (L.map fun p => hN w p.2)
  nd : (L.map (·.2)).Nodup
  tup : ∀ p ∈ L, IsN P w h p.2 p.1
  led : w.params.followText "set-order" = true ∨ t.led = true
  room : L.length * 5 < t.mask * 3
  few : L.length ≤ 6000
section
variable {P : Program} {w : World} {A : Around} {E : Value → Shared → Prop} {s : Shared}
variable {a : Addr} {L : KeyL} {es : Array (Int × Value)} {ep : Nat} {t : SetTable}
theorem rows_size (hr : es.toList = rowsN w L) : es.size = L.length := by
  have h := congrArg List.length hr
  unfold rowsN at h
  rwa [Array.length_toList, List.length_map] at h
theorem SetN.size (R : SetN P w s.heap a L es ep t) : es.size = L.length := rows_size R.rows
theorem fits_g (h1 : t.place.size = es.size) (h2 : t.dummies = #[]) (h3 : es.size ≤ t.mask) : t.fits es.size = true := by
  unfold SetTable.fits SetTable.fill
  rw [h2, Bool.and_eq_true, beq_iff_eq, decide_eq_true_eq]
  show t.place.size = es.size ∧ t.place.size + 0 ≤ t.mask
  omega
theorem SetN.fits (R : SetN P w s.heap a L es ep t) : t.fits es.size = true := by
  have h1 := R.tab.sz
  rw [List.length_map] at h1
  have h3 := R.room
  exact fits_g (by rw [h1, R.size]) R.tab.dm (by rw [R.size]; omega)
theorem SetN.entry (R : SetN P w s.heap a L es ep t) {i : Nat} {p : Addr × NestedKey} (h : L[i]? = some p) : es[i]? = some (hN w p.2, Value.ref p.1) := by
  rw [← Array.getElem?_toList, R.rows]
  unfold rowsN
  rw [List.getElem?_map, h]; rfl
theorem SetN.gw (R : SetN P w s.heap a L es ep t) : ¬ t.gaveWay = true := by
  unfold SetTable.gaveWay
  rw [pmask_odd R.tab.pm R.tab.m7]
  decide
/-- THE SEARCH: from the c-th step of the way on -/
theorem search_n (R : SetN P w s.heap a L es ep t) {x : Addr} {k : NestedKey} (hx : IsN P w s.heap k x) (hu : (nestedKind P w).room A) {K : Nat} (hKf : K < 10 * turns t.mask)
    (hK : way t.mask (hN w k) K ∉ t.place.toList) (hKb : ∀ c, c < K → way t.mask (hN w k) c ∈ t.place.toList) {Q : SetFound → Shared → Prop}
    (hin : k ∈ L.map (·.2) → Q (.there none) s) (hout : k ∉ L.map (·.2) → Q (.free (way t.mask (hN w k) K) false) s) :
    ∀ (f c : Nat) (stand : Option SetTable.Probe), stand.getD (t.probeStart (hN w k)) = nth t.mask (runAt t.mask (bits (hN w k) % (t.mask + 1)) (bits (hN w k))) c → c ≤ K → K - c < f →
      (∀ (i : Nat) p, L[i]? = some p → p.2 = k → ∃ c', c ≤ c' ∧ c' < K ∧ t.place.toList[i]? = some (way t.mask (hN w k) c')) →
      wpAny (model P w) A (setSearchFrom a (.ref x) (hN w k) true f stand) Q E s
  | 0, c, stand, _, _, hf, _ => absurd hf (Nat.not_lt_zero _)
  | f + 1, c, stand, hst, hc, hf, hre => by
    obtain ⟨o, ho, hex, hd⟩ := R.ob
    rw [setSearchFrom_succ]
    refine wpAny_bind (wpAny_setState_of ho hd R.fits ?_)
    dsimp only
    refine wp_if_neg R.gw ?_
    try refine wpAny_bind (wpAny_pure ?_)
    generalize hp0 : runAt t.mask (bits (hN w k) % (t.mask + 1)) (bits (hN w k)) = p0 at hst
    have hway : ∀ q, way t.mask (hN w k) q = (nth t.mask p0 q).j := fun q => by rw [← hp0]
    have hnd : (nth t.mask p0 c).dummy = none := by
      have key : ∀ (n : Nat) (p : SetTable.Probe), p.dummy = none → (nth t.mask p n).dummy = none := by
        intro n
        induction n with
        | zero => intro p h; exact h
        | succ n ih =>
          intro p h
          refine ih (adv t.mask p) ?_
          unfold adv
          split <;> exact h
      rw [← hp0]
      exact key c _ rfl
    have e1 : ∀ q, (nth t.mask (nth t.mask p0 c) q).j = way t.mask (hN w k) (c + q) := fun q => by rw [hway, ← nth_add]
    have spec := go_spec t R.tab.ris R.tab.dm (fun i => (es[i]?.map (·.1)).getD 0) (hN w k) (10 * turns t.mask) (K - c) _ hnd (by omega)
      (fun q hq => by rw [e1]; exact hKb (c + q) (by omega)) (by rw [e1, show c + (K - c) = K by omega]; exact hK)
    have hashAt : ∀ (i : Nat) p, L[i]? = some p → (fun i => (es[i]?.map (·.1)).getD 0) i = hN w p.2 := fun i p hp => by
      show (es[i]?.map (·.1)).getD 0 = _
      rw [R.entry hp]; rfl
    rcases spec with ⟨q, i, hq, hi, hh, hno, hpr⟩ | ⟨hno, hpr⟩
    · have hpr' : t.probe (fun i => (es[i]?.map (·.1)).getD 0) (hN w k) (stand.getD (t.probeStart (hN w k))) = some (.candidate (way t.mask (hN w k) (c + q)) i (nth t.mask p0 (c + (q + 1)))) := by
        rw [hst, ← e1, nth_add]
        exact hpr
      rw [hpr']
      dsimp only
      rw [e1] at hi
      have hil : i < L.length := by
        have h1 : i < t.place.toList.length := (List.getElem?_eq_some_iff.mp hi).1
        have h2 := R.tab.sz
        rw [List.length_map] at h2
        rw [Array.length_toList] at h1
        omega
      have hp : L[i]? = some L[i] := List.getElem?_eq_getElem hil
      generalize hpe : L[i] = p at hp
      have hmem : p ∈ L := List.mem_of_getElem? hp
      have hpt := R.tup p hmem
      have rest : wpAny (model P w) A (searchRest a (.ref x) (hN w k) true f es t (way t.mask (hN w k) (c + q)) i (nth t.mask p0 (c + (q + 1)))) Q E s := by
        unfold searchRest
        rw [R.entry hp]
        dsimp only
        refine wpAny_bind (wpAny_holding ((nestedKind P w).eqBool hu hpt hx ?_))
        refine wpAny_bind (wpAny_setState_of ho hd R.fits ?_)
        dsimp only
        by_cases hkk : p.2 = k
        · refine wp_if_pos (by simp [hkk]) ?_
          refine wpAny_pure (hin ?_)
          exact List.mem_map.mpr ⟨p, hmem, hkk⟩
        · refine wp_if_neg (by simp [hkk]) ?_
          try refine wpAny_bind (wpAny_pure ?_)
          rw [sameMem]
          dsimp only
          have hsl : t.slot (way t.mask (hN w k) (c + q)) = .live i := slot_live R.tab.ris hi
          simp only [if_true, hsl, R.entry hp]
          refine wpAny_bind (wpAny_isSame_ref_self (wpAny_bind (wpAny_pure ?_)))
          simp only [if_true]
          refine wp_if_neg (by simp [hkk]) ?_
          refine search_n R hx hu hKf hK hKb hin hout f (c + (q + 1)) _ (by rw [hp0]; rfl) (by omega) (by omega) fun i0 p1 h0 hk0 => ?_
          obtain ⟨c', a1, a2, a3⟩ := hre i0 p1 h0 hk0
          refine ⟨c', ?_, a2, a3⟩
          rcases Nat.lt_or_ge c' (c + q) with z | z
          · exfalso
            refine hno (c' - c) i0 (by omega) (by rw [e1, show c + (c' - c) = c' by omega]; exact a3) ?_
            exact (hashAt i0 p1 h0).trans (congrArg (hN w) hk0)
          · rcases Nat.lt_or_ge (c + q) c' with y | y
            · omega
            · exfalso
              have ec : c' = c + q := Nat.le_antisymm y z
              rw [ec] at a3
              have s0 := slot_live R.tab.ris a3
              rw [hsl] at s0
              injection s0 with s0
              rw [← s0, hp] at h0
              exact hkk ((congrArg Prod.snd (Option.some.inj h0)).trans hk0)
      by_cases hl : t.led = true
      · refine wp_if_neg (by simp [hl]) ?_
        try refine wpAny_bind (wpAny_pure ?_)
        exact rest
      · refine wp_if_pos (by simp [hl]) ?_
        refine wpAny_bind (seen_n hx (fun y hy => ?_) ?_)
        · obtain ⟨e, he, ee⟩ := List.mem_map.mp hy
          have he1 : e ∈ es ∧ e.1 = hN w k := by simpa using he
          have he2 : e ∈ es.toList := by simpa using he1.1
          rw [R.rows] at he2
          obtain ⟨p2, hp2, e2⟩ := List.mem_map.mp he2
          refine ⟨p2.2, p2.1, ?_, R.tup p2 hp2⟩
          rw [← ee, ← e2]
        · refine wp_if_neg (by decide) ?_
          try refine wpAny_bind (wpAny_pure ?_)
          exact rest
    · have hpr' : t.probe (fun i => (es[i]?.map (·.1)).getD 0) (hN w k) (stand.getD (t.probeStart (hN w k))) = some (.empty (way t.mask (hN w k) K) none) := by
        have e2 : way t.mask (hN w k) K = (nth t.mask (nth t.mask p0 c) (K - c)).j := by rw [e1, show c + (K - c) = K by omega]
        rw [hst, e2]
        exact hpr
      rw [hpr']
      dsimp only
      refine wpAny_pure (hout fun hm => ?_)
      obtain ⟨p1, h0, hk0⟩ := List.mem_map.mp hm
      obtain ⟨i0, hi0, e0⟩ := List.getElem_of_mem h0
      have h00 : L[i0]? = some p1 := by rw [List.getElem?_eq_getElem hi0, e0]
      obtain ⟨c', a1, a2, a3⟩ := hre i0 p1 h00 hk0
      refine hno (c' - c) i0 (by omega) (by rw [e1, show c + (c' - c) = c' by omega]; exact a3) ?_
      exact (hashAt i0 p1 h00).trans (congrArg (hN w) hk0)
/-- the search as adding asks for it -/
theorem search_add (R : SetN P w s.heap a L es ep t) {x : Addr} {k : NestedKey} (hx : IsN P w s.heap k x) (hu : (nestedKind P w).room A) {Q : SetFound → Shared → Prop}
    (hin : k ∈ L.map (·.2) → Q (.there none) s)
    (hout : ∀ K, k ∉ L.map (·.2) → way t.mask (hN w k) K ∉ t.place.toList → (∀ c, c < K → way t.mask (hN w k) c ∈ t.place.toList) → Q (.free (way t.mask (hN w k) K) false) s) :
    wpAny (model P w) A (setSearch a (.ref x) (hN w k) true) Q E s := by
  have hroom := R.room
  have hfew := R.few
  obtain ⟨K, hKf, hK, hKb⟩ := R.tab.first (by rw [List.length_map]; omega) (hN w k)
  rw [List.length_map] at hKf
  unfold setSearch
  refine search_n R hx hu (by unfold turns; omega) hK hKb hin (fun hn => hout K hn hK hKb) 100000 0 none rfl (Nat.zero_le _) (by omega) fun i p hp hk => ?_
  have hi : (L.map fun p => hN w p.2)[i]? = some (hN w k) := by rw [List.getElem?_map, hp, ← hk]; rfl
  have hil : i < t.place.toList.length := by
    have h1 : i < L.length := (List.getElem?_eq_some_iff.mp hp).1
    have h2 := R.tab.sz
    rw [List.length_map] at h2
    rw [Array.length_toList]
    omega
  have hj := List.getElem?_eq_getElem hil
  obtain ⟨c, hc, e⟩ := R.tab.before hK hi hj
  exact ⟨c, Nat.zero_le _, hc, by rw [hj, e]⟩
end
end PQ

/-! PQ.43: a set of tuples: adding, laying anew -/
namespace PQ
open PySem PySem.Spec PyProof.Rows L2
open PySem.SetTable (bits turns)
section
variable {P : Program} {w : World} {A : Around} {E : Value → Shared → Prop} {s : Shared}
variable {a : Addr} {L : KeyL} {es : Array (Int × Value)} {ep : Nat} {t : SetTable}
theorem rows_put_n (L : KeyL) (p : Nat) (x : Addr) (k : NestedKey) : rowsN w (L.take p ++ (x, k) :: L.drop p) = (rowsN w L).take p ++ (hN w k, Value.ref x) :: (rowsN w L).drop p := by
  unfold rowsN
  rw [List.map_append, List.map_cons, List.map_take, List.map_drop]
theorem order_n (L : KeyL) (es : Array (Int × Value)) (order : Array Nat) (hr : es.toList = rowsN w L) (hp : order.toList.Perm (List.range L.length)) :
    ∃ L2, (order.filterMap (es[·]?)).toList = rowsN w L2 ∧ L2.Perm L ∧ (L2.map fun p => hN w p.2) = order.toList.map fun i => (es.map (·.1)).getD i 0 := by
  have hsz := rows_size hr
  have ent : ∀ i (h : i < L.length), es[i]? = some (hN w (L[i]).2, Value.ref (L[i]).1) := fun i h => by
    rw [← Array.getElem?_toList, hr]
    unfold rowsN
    rw [List.getElem?_map, List.getElem?_eq_getElem h]; rfl
  have key : ∀ l : List Nat, (∀ i ∈ l, i < L.length) → ∃ L2 : KeyL, l.filterMap (fun i => es[i]?) = rowsN w L2 ∧ L2 = l.filterMap (fun i => L[i]?) ∧ (L2.map fun p => hN w p.2) = l.map fun i => (es.map (·.1)).getD i 0 := by
    intro l
    induction l with
    | nil => intro _; exact ⟨[], rfl, rfl, rfl⟩
    | cons i l ih =>
      intro hl
      have hi := hl i List.mem_cons_self
      obtain ⟨L2, e1, e2, e3⟩ := ih fun j hj => hl j (List.mem_cons_of_mem _ hj)
      refine ⟨L[i] :: L2, ?_, ?_, ?_⟩
      · rw [List.filterMap_cons_some (ent i hi), e1]; rfl
      · rw [List.filterMap_cons_some (List.getElem?_eq_getElem hi), e2]
      · rw [List.map_cons, List.map_cons, e3]
        have e5 : (es.map (·.1))[i]? = some (hN w (L[i]).2) := by rw [Array.getElem?_map, ent i hi]; rfl
        have e4 : (es.map (·.1)).getD i 0 = hN w (L[i]).2 := by simp [Array.getD_eq_getD_getElem?, e5]
        rw [e4]
  obtain ⟨L2, e1, e2, e3⟩ := key order.toList fun i hi => List.mem_range.mp (hp.mem_iff.mp hi)
  refine ⟨L2, by first | (rw [Array.toList_filterMap]; exact e1) | simpa using e1, ?_, e3⟩
  have h1 : L2.Perm ((List.range L.length).filterMap fun i => L[i]?) := by rw [e2]; exact hp.filterMap _
  have h2 : (List.range L.length).filterMap (fun i => L[i]?) = L := by
    have key2 : ∀ n, n ≤ L.length → (List.range n).filterMap (fun i => L[i]?) = L.take n := by
      intro n
      induction n with
      | zero => intro _; rfl
      | succ n ih =>
        intro hn
        have hlt : n < L.length := hn
        rw [List.range_succ, List.filterMap_append, ih (Nat.le_of_lt hlt), List.take_succ, List.getElem?_eq_getElem hlt, List.filterMap_cons_some (List.getElem?_eq_getElem hlt)]
        rfl
    rw [key2 L.length (Nat.le_refl _), List.take_length]
  rwa [h2] at h1
/-- the table laid anew, larger -/
theorem relay_n {o : Obj} (ho : s.heap.get? a = some o) (hex : o.ExactSet) (hd : o.data = .set es ep t) (hrows : es.toList = rowsN w L) (hsz : t.place.size = es.size) (hdm : t.dummies = #[]) (hfl : es.size ≤ t.mask)
    (nd : (L.map (·.2)).Nodup) (tup : ∀ p ∈ L, IsN P w s.heap p.2 p.1) (ld : w.params.followText "set-order" = true ∨ t.led = true) (few : L.length ≤ 6000) {Q : Unit → Shared → Prop}
    (hQ : ∀ h' L' es' ep' t', Heap.SameBut a s.heap h' → SetN P w h' a L' es' ep' t' → L'.Perm L → Q () { s with heap := h' }) : wpAny (model P w) A (setRelay a (SetTable.grown L.length)) Q E s := by
  have hsl := rows_size hrows
  have hfits := fits_g hsz hdm hfl
  have hgr : SetTable.grown L.length = L.length * 4 := by unfold SetTable.grown; rw [if_neg (by omega)]
  obtain ⟨e, he, e3, hlt, hle⟩ := sizeAbove_spec (n := SetTable.grown L.length) (by rw [hgr]; omega)
  have hp8 : 8 ≤ 2 ^ e := by
    have := Nat.pow_le_pow_right (n := 2) (by omega) e3
    simpa using this
  have hup : 2 ^ e ≤ 1000000 := by
    rcases hle with rfl | hle
    · decide
    · rw [hgr] at hle; omega
  rw [hgr] at hlt
  obtain ⟨t', order, e', hp, T, em, el, ep'⟩ := relaid_g t (hs := es.map (·.1)) (wanted := SetTable.grown L.length) (M := 2 ^ e - 1) (by rw [he]) ⟨e, by omega⟩ (by omega) (by rw [Array.size_map, hsl]; omega)
  rw [Array.size_map, hsl] at hp
  obtain ⟨L2, r1, r2, r3⟩ := order_n L es order hrows hp
  rw [← r3] at T
  have hs2 : (order.filterMap (es[·]?)).size = es.size := by rw [rows_size r1, r2.length_eq, hsl]
  rw [setRelay_eq]
  refine wpAny_bind (wpAny_setState_of ho hd hfits ?_)
  dsimp only
  refine wp_if_neg (by rw [he, sizeLine_eq]; omega) ?_
  try refine wpAny_bind (wpAny_pure ?_)
  rw [e']
  dsimp only
  refine wpAny_bind ?_
  refine wp_if_neg (by rw [hs2]; simp) ?_
  try refine wpAny_bind (wpAny_pure ?_)
  refine wpAny_pure ?_
  dsimp only
  refine wpAny_storeSet_of ho hd ?_ (by rw [hs2, hsl, sizeLine_eq]; omega)
  have sb : Heap.SameBut a s.heap (s.heap.update a (Obj.putSet (order.filterMap (es[·]?)) t')) := Heap.SameBut.update ..
  refine hQ _ L2 (order.filterMap (es[·]?)) (ep + 1) t' sb ⟨⟨_, store_at ho hd, ⟨hex.1, hex.2.1, hex.2.2⟩, rfl⟩, r1, T, (r2.map (·.2)).nodup_iff.mpr nd, fun p hpm => isN_same (tup p (r2.mem_iff.mp hpm)) ho hd sb, by rw [el]; exact ld, ?_, by rw [r2.length_eq]; exact few⟩ r2
  rw [r2.length_eq, em]
  omega
theorem tab_plain {t : SetTable} {hs : List Int} (T : TabG t hs) : TabG { t with plain := false } hs := ⟨T.ris, T.dm, T.sz, T.pm, T.m7, T.bd, T.reach⟩
/-- ADDING -/
theorem add_n (R : SetN P w s.heap a L es ep t) {x : Addr} {k : NestedKey} (hx : IsN P w s.heap k x) (hu : (nestedKind P w).room A) (hfew : L.length + 1 ≤ 6000) {Q : Bool → Shared → Prop}
    (hQ : ∀ b h' L' es' ep' t', Heap.SameBut a s.heap h' → SetN P w h' a L' es' ep' t' → (k ∈ L.map (·.2) → L' = L) → (k ∉ L.map (·.2) → L'.Perm ((x, k) :: L)) → Q b { s with heap := h' }) :
    wpAny (model P w) A (setAddHashed a (.ref x) (hN w k)) Q E s := by
  obtain ⟨o, ho, hex, hd⟩ := R.ob
  have hsl := R.size
  have hroom := R.room
  unfold setAddHashed
  refine wpAny_holding ?_
  rw [show (100000 : Nat) = 99999 + 1 from rfl, setAddHashedIn_succ]
  refine wpAny_bind (wpAny_setState_of ho hd R.fits ?_)
  dsimp only
  refine wp_if_neg (by simp [byScan, Value.scannable]) ?_
  try refine wpAny_bind (wpAny_pure ?_)
  refine wpAny_bind (search_add R hx hu (fun hm => ?_) fun K hm hK hb => ?_)
  · dsimp only
    exact wpAny_pure (hQ false s.heap L es ep t (Heap.SameBut.refl a s.heap) R (fun _ => rfl) fun z => absurd hm z)
  · dsimp only
    refine wpAny_bind (wpAny_setState_of ho hd R.fits ?_)
    dsimp only
    obtain ⟨p, q1, q2, q3, q4, q5, q6, q9⟩ := R.tab.put hK hb
    generalize hpt : t.put (way t.mask (hN w k) K) = pt at q1 q3 q4 q5 q6 q9 ⊢
    obtain ⟨t1, p'⟩ := pt
    dsimp only at q1 q3 q4 q5 q6 q9 ⊢
    subst q1
    rw [List.length_map] at q2
    have hin : (SetTable.insertAt es p' (hN w k, Value.ref x)).toList = rowsN w (L.take p' ++ (x, k) :: L.drop p') := by rw [SetTable.toList_insertAt, rows_put_n, R.rows]
    have pm := put_perm L p' (x, k)
    have hlen : (L.take p' ++ (x, k) :: L.drop p').length = L.length + 1 := pm.length_eq
    have hhs : (L.take p' ++ (x, k) :: L.drop p').map (fun p => hN w p.2) = (L.map fun p => hN w p.2).take p' ++ hN w k :: (L.map fun p => hN w p.2).drop p' := by
      rw [List.map_append, List.map_cons, List.map_take, List.map_drop]
    rw [← hhs] at q3
    have nd1 : ((L.take p' ++ (x, k) :: L.drop p').map (·.2)).Nodup := by
      refine (pm.map (·.2)).nodup_iff.mpr ?_
      rw [List.map_cons]
      exact List.nodup_cons.mpr ⟨hm, R.nd⟩
    have hes : (SetTable.insertAt es p' (hN w k, Value.ref x)).size = L.length + 1 := by rw [rows_size hin, hlen]
    generalize SetTable.insertAt es p' (hN w k, Value.ref x) = es1 at hin hes ⊢
    generalize L.take p' ++ (x, k) :: L.drop p' = L1 at pm hlen q3 nd1 hin
    -- with a table that says the same but for plain
    have fin : ∀ t2 : SetTable, TabG t2 (L1.map fun p => hN w p.2) → t2.mask = t.mask → t2.led = t.led → t2.fill = L.length + 1 →
        wpAny (model P w) A (do
          storeSet a es1 t2
          if !false && t2.tooFull then setRelay a (SetTable.grown (es.size + 1))
          return true) Q E s := by
      intro t2 T2 m2 l2 f2
      refine wpAny_bind (wpAny_storeSet_of ho hd ?_ (by rw [hes, sizeLine_eq]; omega))
      have sb : Heap.SameBut a s.heap (s.heap.update a (Obj.putSet es1 t2)) := Heap.SameBut.update ..
      have ho1 := store_at (es' := es1) (t' := t2) ho hd
      generalize s.heap.update a (Obj.putSet es1 t2) = h1 at sb ho1 ⊢
      have tup1 : ∀ p ∈ L1, IsN P w h1 p.2 p.1 := fun p hp => by
        rcases List.mem_cons.mp (pm.mem_iff.mp hp) with e | hp
        · rw [e]; exact isN_same hx ho hd sb
        · exact isN_same (R.tup p hp) ho hd sb
      have ld1 : w.params.followText "set-order" = true ∨ t2.led = true := by rw [l2]; exact R.led
      have hsz1 : t2.place.size = es1.size := by
        have h := T2.sz
        rw [List.length_map, hlen] at h
        rw [h, hes]
      by_cases hf : t2.tooFull = true
      · first
          | (refine wpAny_bind ?_; refine wp_if_pos (by simp [hf]) ?_)
          | (refine wp_if_pos (by simp [hf]) ?_; refine wpAny_bind ?_)
        have e0 : es.size + 1 = L1.length := by rw [hsl, hlen]
        rw [e0]
        refine relay_n (s := { s with heap := h1 }) ho1 ⟨hex.1, hex.2.1, hex.2.2⟩ rfl hin hsz1 T2.dm (by rw [hes, m2]; omega) nd1 tup1 ld1 (by rw [hlen]; exact hfew) ?_
        intro h2 L2 es2 ep2 t3 sb2 R2 pm2
        exact wpAny_pure (hQ true h2 L2 es2 ep2 t3 (sb.trans sb2) R2 (fun z => absurd z hm) fun _ => pm2.trans pm)
      · first
          | refine wp_if_neg (by simp [hf]) ?_
          | (refine wpAny_bind ?_; refine wp_if_neg (by simp [hf]) ?_; refine wpAny_pure ?_)
        refine wpAny_pure (hQ true h1 L1 es1 (ep + 1) t2 sb ⟨⟨_, ho1, ⟨hex.1, hex.2.1, hex.2.2⟩, rfl⟩, hin, T2, nd1, tup1, ld1, ?_, by rw [hlen]; exact hfew⟩ (fun z => absurd z hm) fun _ => pm)
        unfold SetTable.tooFull at hf
        rw [decide_eq_true_eq, f2] at hf
        rw [hlen]
        omega
    have f1 : t1.fill = L.length + 1 := by rw [q9, List.length_map]
    by_cases hp1 : t1.plain = true
    · first
        | (refine wpAny_bind ?_; refine wp_if_pos hp1 ?_; refine hb_key k _ 8 hx.1 hx.2 _ _ _ ?_)
        | refine wp_if_pos hp1 (wpAny_bind (hb_key k _ 8 hx.1 hx.2 _ _ _ ?_))
      intro b _
      cases b
      · exact fin { t1 with plain := false } (tab_plain q3) q4 q5 f1
      · exact fin t1 q3 q4 q5 f1
    · first
        | (refine wpAny_bind ?_; refine wp_if_neg hp1 ?_; refine wpAny_pure ?_)
        | refine wp_if_neg hp1 (wpAny_bind (wpAny_pure ?_))
        | refine wp_if_neg hp1 ?_
      exact fin t1 q3 q4 q5 f1
end
end PQ

/-! PQ.44: set(xs), xs a list of tuples -/
namespace PQ
open PySem PySem.Spec PyProof.Rows L2

/-- what the set has got from the first i items -/
structure GotN (ks : KeyL) (i : Nat) (L : KeyL) : Prop where
  sub : ∀ p ∈ L, p ∈ ks.take i
  all : ∀ p ∈ ks.take i, p.2 ∈ L.map (·.2)
  len : L.length ≤ i
theorem GotN.zero (ks : KeyL) : GotN ks 0 [] := ⟨fun p h => (by cases h), fun p h => (by simp at h), Nat.le_refl _⟩
theorem GotN.same {ks L : KeyL} {i : Nat} {x : Addr × NestedKey} (g : GotN ks i L) (h : ks[i]? = some x) (hm : x.2 ∈ L.map (·.2)) : GotN ks (i + 1) L := by
  refine ⟨fun p hp => ?_, fun p hp => ?_, Nat.le_succ_of_le g.len⟩
  · rw [take_next h]; exact List.mem_append_left _ (g.sub p hp)
  · rw [take_next h] at hp
    rcases List.mem_append.mp hp with z | z
    · exact g.all p z
    · rw [List.mem_singleton.mp z]; exact hm
theorem GotN.more {ks L L' : KeyL} {i : Nat} {x : Addr × NestedKey} (g : GotN ks i L) (h : ks[i]? = some x) (pm : L'.Perm (x :: L)) : GotN ks (i + 1) L' := by
  refine ⟨fun p hp => ?_, fun p hp => ?_, ?_⟩
  · rw [take_next h]
    rcases List.mem_cons.mp (pm.mem_iff.mp hp) with e | z
    · rw [e]; exact List.mem_append_right _ (List.mem_singleton.mpr rfl)
    · exact List.mem_append_left _ (g.sub p z)
  · rw [(pm.map (·.2)).mem_iff, List.map_cons]
    rw [take_next h] at hp
    rcases List.mem_append.mp hp with z | z
    · exact List.mem_cons_of_mem _ (g.all p z)
    · rw [List.mem_singleton.mp z]; exact List.mem_cons_self
  · rw [pm.length_eq, List.length_cons]; exact Nat.succ_le_succ g.len

section
variable {P : Program} {w : World} {A : Around} {E : Value → Shared → Prop} {s : Shared}
theorem SetN.keep {h h' : Heap} {a : Addr} {L : KeyL} {es : Array (Int × Value)} {ep : Nat} {t : SetTable} (R : SetN P w h a L es ep t) (ha : ∀ o, h.get? a = some o → h'.get? a = some o) (ht : ∀ p ∈ L, IsN P w h' p.2 p.1) : SetN P w h' a L es ep t := by
  obtain ⟨o, ho, r⟩ := R.ob
  exact ⟨⟨o, ha o ho, r⟩, R.rows, R.tab, R.nd, ht, R.led, R.room, R.few⟩
theorem setN_fresh {h : Heap} {a : Addr} (ho : h.get? a = some { cls := .type "set", dict := none, data := .set #[] 0 (.fresh 0 0 (!w.params.followText "set-order")) }) : SetN P w h a [] #[] 0 (.fresh 0 0 (!w.params.followText "set-order")) where
  ob := ⟨_, ho, ⟨rfl, rfl, rfl⟩, rfl⟩
  rows := rfl
  tab := ⟨List.Pairwise.nil, rfl, rfl, ⟨3, rfl⟩, Nat.le_refl _, fun x hx => (by cases hx), fun i h j hi => (by simp at hi)⟩
  nd := List.nodup_nil
  tup := fun p hp => (by cases hp)
  led := by
    show _ ∨ (!w.params.followText "set-order") = true
    cases w.params.followText "set-order"
    · exact .inr rfl
    · exact .inl rfl
  room := by show 0 * 5 < 7 * 3; decide
  few := Nat.zero_le _

/-- set.update's loop -/
theorem set_update_n {I : Addr} {fp wr : List Addr} {G : Array GenState → Array GenState → Prop} {n : Nat} {Pv : Nat → Value → Prop} {St : Nat → Shared → Prop} {R : Result → Shared → Prop}
    (W : WalksS P w A.in1 I fp wr G n Pv St) (S : Addr) (hSf : S ∉ fp) (ks : KeyL) (hn : n = ks.length) (hfew : ks.length ≤ 6000) (hval : ∀ i v, Pv i v → ∃ p, ks[i]? = some p ∧ v = .ref p.1)
    (h0 : Heap) (hk : ∀ p ∈ ks, IsN P w h0 p.2 p.1) (hS0 : h0.get? S = none) (hw0 : ∀ b ∈ wr, h0.get? b = none) (hu : (nestedKind P w).room A.in1) :
    ∀ (k i : Nat) (s : Shared), n - i = k → i ≤ n → St i s → (∀ b o, h0.get? b = some o → s.heap.get? b = some o) → (∃ L es ep t, SetN P w s.heap S L es ep t ∧ GotN ks i L) →
      (∀ s' L es ep t, Moved (S :: wr) G s s' → SetN P w s'.heap S L es ep t → GotN ks n L → (∀ b o, h0.get? b = some o → s'.heap.get? b = some o) → R (.ok (.ret .none)) s') →
      codeAny (model P w) A (.builtin "set.update.loop" ⟨[.ref S, .ref I], []⟩) R s := by
  have hSw : S ∉ wr := fun h => hSf (W.sub _ h)
  have hsub : ∀ b ∈ wr, b ∈ S :: wr := fun b hb => List.mem_cons_of_mem _ hb
  have keepM : ∀ {s s' : Shared}, Moved wr G s s' → (∀ b o, h0.get? b = some o → s.heap.get? b = some o) → ∀ b o, h0.get? b = some o → s'.heap.get? b = some o := fun hm hkp b o e =>
    hm.heap b o (fun hb => by rw [hw0 b hb] at e; cases e) (hkp b o e)
  intro k
  induction k with
  | zero =>
    intro i s hk' hi hst hkp ⟨L, es, ep, t, hS, g⟩ hR
    have hin : i = n := by omega
    subst hin
    refine codeAny_builtin F.entry_set_update_loop ?_
    rw [Around.under_plainId F.plain_set_update_loop _]
    show wpAny _ A.in1 (pyNext (.ref I) >>= _) _ _ s
    refine wpAny_bind (W.done s _ _ hst fun s' hm => ?_)
    show wpAny _ A.in1 (ret Value.none) _ _ s'
    have hkp' := keepM hm hkp
    have sub : ∀ p ∈ L, p ∈ ks := fun p hp => List.mem_of_mem_take (g.sub p hp)
    exact wpAny_pure (hR s' L es ep t (hm.mono hsub) (hS.keep (fun o e => hm.heap S o hSw e) fun p hp => isN_keep (hk p (sub p hp)) hkp') g hkp')
  | succ k ih =>
    intro i s hk' hi hst hkp ⟨L, es, ep, t, hS, g⟩ hR
    have hlt : i < n := by omega
    refine codeAny_builtin F.entry_set_update_loop ?_
    rw [Around.under_plainId F.plain_set_update_loop _]
    show wpAny _ A.in1 (pyNext (.ref I) >>= _) _ _ s
    refine wpAny_bind (W.item i s _ _ hlt hst fun v s' hP hst' hm => ?_)
    obtain ⟨p, hp, rfl⟩ := hval i v hP
    have hkp' := keepM hm hkp
    have sub : ∀ p ∈ L, p ∈ ks := fun p hp => List.mem_of_mem_take (g.sub p hp)
    have hS' : SetN P w s'.heap S L es ep t := hS.keep (fun o e => hm.heap S o hSw e) fun q hq => isN_keep (hk q (sub q hq)) hkp'
    have hx : IsN P w s'.heap p.2 p.1 := isN_keep (hk p (List.mem_of_getElem? hp)) hkp'
    show wpAny _ A.in1 (holding [Value.ref p.1] (setAdd S (.ref p.1)) >>= _) _ _ s'
    refine wpAny_bind (wpAny_holding ?_)
    unfold setAdd
    refine wpAny_holding ?_
    refine wpAny_bind ((nestedKind P w).pyHash hu hx ?_)
    refine add_n (s := { s' with toks := s'.toks + (nestedKind P w).draws p.2 }) hS' hx hu (by have := g.len; omega) fun b h' L' es' ep' t' hsb hS2 c1 c2 => ?_
    have g' : GotN ks (i + 1) L' := by
      rcases Classical.em (p.2 ∈ L.map (·.2)) with c | c
      · rw [c1 c]; exact g.same hp c
      · exact g.more hp (c2 c)
    have hkp2 : ∀ b o, h0.get? b = some o → h'.get? b = some o := fun b o e => (hsb.2 b (fun z => by rw [z, hS0] at e; cases e)).trans (hkp' b o e)
    refine wpAny_pure ⟨plainId_quiet F.plain_set_update_loop _, ih (i + 1) _ (by omega) hlt (W.frame _ s' _ _ hst' (Nat.le_add_right _ _) fun b hb o e => ?_) hkp2 ⟨L', es', ep', t', hS2, g'⟩ fun s'' L2 es2 ep2 t2 hm'' hS'' g'' hkp'' => ?_⟩
    · rw [hsb.2 b (fun h : b = S => hSf (by rw [← h]; exact hb))]; exact e
    · refine hR s'' L2 es2 ep2 t2 (Moved.trans W.gtrans ((hm.mono hsub).then_heap (Nat.le_add_right _ _) fun b o hb e => ?_) hm'') hS'' g'' hkp''
      rw [hsb.2 b (fun h : b = S => hb (by rw [h]; exact List.mem_cons_self))]; exact e

set_option maxHeartbeats 6400000 in
/-- set(xs) -/
theorem call_set_n {l : Addr} {items : Array Value} (ks : KeyL) {Q : Value → Shared → Prop} (hh : A.handled = none) (hl : s.heap.IsList l items) (hit : items.toList = ks.map fun p => Value.ref p.1)
    (hk : ∀ p ∈ ks, IsN P w s.heap p.2 p.1) (hfew : ks.length ≤ 6000) (hu : A.units + 20 < cLine)
    (h : ∀ (h' : Heap) (tk : Nat) L es ep t, SetN P w h' s.heap.objs.size L es ep t → GotN ks ks.length L → (∀ b o, s.heap.get? b = some o → h'.get? b = some o) → Q (.ref s.heap.objs.size) { s with heap := h', toks := tk }) :
    wpAny (model P w) A (call (.type "set") [.ref l]) Q E s := by
  have hisz : items.size = ks.length := by
    have q := congrArg List.length hit
    rwa [Array.length_toList, List.length_map] at q
  obtain ⟨c, tl, hmro⟩ := F.called_set.mro
  have hmade := F.called_set.made
  have hsub := F.called_set.sub
  refine wpAny_call (codeAny_of_tree ?_)
  show wpAny _ _ (callAny (.type "set") _) _ _ _
  refine wpAny_pure ⟨Code.quiet_builtin _ (by decide +kernel), codeAny_builtin F.entry_type_call ?_⟩
  rw [Around.under_plain (weight_type_call_type "set" [.ref l] []) rfl]
  have h1 := F.called_set.notType
  have h2 := F.called_set.canCreate
  have hct := F.typeCall_set_1 (.ref l)
  repeat (any_goals (first | assumption | wp_step))

  refine codeAny_mono (code_set_led1 (.ref l) (E := E) (Q₁ := fun obj s₁ => obj = .ref s.heap.objs.size ∧ s₁ = { s with heap := s.heap.push { cls := .type "set", dict := none, data := .set #[] 0 (.fresh 0 0 (!w.params.followText "set-order")) } }) ⟨rfl, rfl⟩) fun r s₁ hr => ?_
  cases r with
  | error e => exact hr
  | ok fl =>
    cases fl with
    | ret obj =>
      obtain ⟨rfl, rfl⟩ := hr
      have hS : (s.heap.push { cls := .type "set", dict := none, data := .set #[] 0 (.fresh 0 0 (!w.params.followText "set-order")) }).get? s.heap.objs.size = some { cls := .type "set", dict := none, data := .set #[] 0 (.fresh 0 0 (!w.params.followText "set-order")) } := Heap.get?_push_size _ rfl
      have hT : Shared.TypeIs { s with heap := s.heap.push { cls := .type "set", dict := none, data := .set #[] 0 (.fresh 0 0 (!w.params.followText "set-order")) } } (.ref s.heap.objs.size) "set" := ⟨_, hS, rfl⟩
      have hli := F.called_set.init.lookup
      have hbi := F.called_set.init.bind (.ref s.heap.objs.size)
      repeat (any_goals (first | assumption | wp_step))

      refine codeAny_mono (codeAny_call_builtin (R := wants (fun r s₂ => r = .none ∧ ∃ h' tk L es ep t, s₂ = { s with heap := h', toks := tk } ∧ SetN P w h' s.heap.objs.size L es ep t ∧ GotN ks ks.length L ∧
          (∀ b o, s.heap.get? b = some o → h'.get? b = some o)) E) F.called_set.init.plain F.entry_set_init (check_set_init_1 hT ?_)) fun r₂ s₂ hr₂ => ?_
      · obtain ⟨ol, hol, hcl, nl, hdl⟩ := hl
        obtain ⟨ocls, odict, odata, oslots⟩ := ol
        simp only at hcl hdl
        subst hcl; subst hdl
        have hol' : (s.heap.push { cls := .type "set", dict := none, data := .set #[] 0 (.fresh 0 0 (!w.params.followText "set-order")) }).get? l = some { cls := .type "list", dict := odict, data := .seq items nl, slots := oslots } := Heap.get?_push_of_some _ hol
        have hsls := F.sub_list_set
        have hslf := F.sub_list_frozenset
        have hne : (Value.type "list" == Value.type "dict") = false := by decide
        have hl1 : (s.heap.push { cls := .type "set", dict := none, data := .set #[] 0 (.fresh 0 0 (!w.params.followText "set-order")) }).IsList l items := ⟨_, hol', rfl, nl, rfl⟩
        unfold Builtin.«set.__init__» noKeywords Builtin.Frozenset.updateFrom
        generalize hPI : pyIter = PI
        wp_walk
        subst hPI

        refine wpAny_pyIter_list hl1 ?_
        refine wpAny_bind (wpAny_runValue ?_)
        have hlS : l < s.heap.objs.size := Heap.lt_size hol
        have hh3 : A.in1.in1.in1.handled = none := by simp [hh]
        have hz1 : (s.heap.push { cls := .type "set", dict := none, data := .set #[] 0 (.fresh 0 0 (!w.params.followText "set-order")) }).objs.size = s.heap.objs.size + 1 := Heap.size_push ..
        have hneI : l ≠ (s.heap.push { cls := .type "set", dict := none, data := .set #[] 0 (.fresh 0 0 (!w.params.followText "set-order")) }).objs.size := by
          rw [Heap.size_push]; exact Nat.ne_of_lt (Nat.lt_succ_of_lt hlS)
        have hSf : s.heap.objs.size ∉ [(s.heap.push { cls := .type "set", dict := none, data := .set #[] 0 (.fresh 0 0 (!w.params.followText "set-order")) }).objs.size, l] := by
          rw [Heap.size_push]; simp only [List.mem_cons, List.mem_singleton, List.not_mem_nil, or_false, not_or]
          exact ⟨Nat.ne_of_lt (Nat.lt_succ_self _), Nat.ne_of_gt hlS⟩
        have hval : ∀ (i : Nat) (v : Value), items[i]? = some v → ∃ p, ks[i]? = some p ∧ v = .ref p.1 := fun i v hv => by
          have q : items.toList[i]? = some v := by rw [Array.getElem?_toList]; exact hv
          rw [hit, List.getElem?_map] at q
          cases hq : ks[i]? with
          | none => rw [hq] at q; cases q
          | some p =>
            rw [hq] at q
            exact ⟨p, rfl, (Option.some.inj q).symm⟩
        have none_of : ∀ b, s.heap.objs.size ≤ b → s.heap.get? b = none := fun b hb => by
          cases q : s.heap.get? b with
          | none => rfl
          | some o => exact absurd (Nat.lt_of_lt_of_le (Heap.lt_size q) hb) (Nat.lt_irrefl _)
        have hu3 : (nestedKind P w).room A.in1.in1.in1 := by
          show _ + 8 < cLine
          simp only [Around.in1]
          omega
        refine set_update_n ((Walks.list hh3 _ l hneI items).toS) s.heap.objs.size
          hSf ks hisz hfew hval s.heap hk (none_of _ (Nat.le_refl _)) (fun b hb => none_of b (by
            rw [List.mem_singleton.mp hb, Heap.size_push]
            exact Nat.le_succ _)) hu3 (items.size - 0) 0 _ (by omega) (Nat.zero_le _)
          ⟨⟨_, Heap.get?_push_size _ rfl, rfl, rfl⟩, (hl1.push _)⟩ (fun b o e => Heap.get?_push_of_some _ (Heap.get?_push_of_some _ e)) ?hS0 ?hR
        case hS0 =>
          have hget : ((s.heap.push { cls := .type "set", dict := none, data := .set #[] 0 (.fresh 0 0 (!w.params.followText "set-order")) }).push { cls := .type "list_iterator", data := .fields #[.ref l, .int 0 0] }).get? s.heap.objs.size
              = some { cls := .type "set", dict := none, data := .set #[] 0 (.fresh 0 0 (!w.params.followText "set-order")) } := Heap.get?_push_of_some _ hS
          exact ⟨[], #[], 0, _, setN_fresh hget, GotN.zero ks⟩
        case hR =>
          intro s' L es ep t hm hS' g' hkp
          obtain ⟨h', g2, d', tk', os'⟩ := s'
          have eg : g2 = s.gens := hm.gens
          have ed : d' = s.drawn := hm.drawn
          have eo : os' = s.os := hm.os
          subst eg; subst ed; subst eo
          show wpAny _ _ _ _ _ _
          refine wpAny_pure ?_
          show wpAny _ _ (ret Value.none) _ _ _
          rw [hisz] at g'
          exact wpAny_pure ⟨rfl, h', tk', L, es, ep, t, rfl, hS', g', hkp⟩

      · cases r₂ with
        | error e => exact hr₂
        | ok fl₂ =>
          cases fl₂ with
          | ret r =>
            obtain ⟨rfl, h', tk, L, es, ep, t, rfl, hS', g', hk'⟩ := hr₂
            repeat (any_goals (first | assumption | wp_step))
            exact h _ _ _ _ _ _ hS' g' hk'
          | _ => exact hr₂.elim
    | _ => exact hr.elim
end
end PQ

/-! PQ.45: len(set(xs)), xs a list of tuples -/
namespace PQ
open PySem PySem.Spec PyProof.Rows L2

def nubN : List NestedKey → List NestedKey
  | [] => []
  | k :: ks => k :: (nubN ks).filter fun j => decide (j ≠ k)
theorem nubN_mem : ∀ {ks : List NestedKey} {j : NestedKey}, j ∈ nubN ks ↔ j ∈ ks
  | [], j => Iff.rfl
  | k :: ks, j => by
    rw [nubN, List.mem_cons, List.mem_cons, List.mem_filter, nubN_mem]
    by_cases h : j = k
    · simp [h]
    · simp [h]
theorem nubN_nodup : ∀ ks : List NestedKey, (nubN ks).Nodup
  | [] => List.nodup_nil
  | k :: ks => by
    rw [nubN, List.nodup_cons]
    exact ⟨fun h => by simp at h, (nubN_nodup ks).filter _⟩
theorem nubN_perm {ks L : List NestedKey} (hn : L.Nodup) (h : ∀ j, j ∈ L ↔ j ∈ ks) : L.Perm (nubN ks) :=
  (List.perm_ext_iff_of_nodup hn (nubN_nodup ks)).mpr fun j => by rw [h, nubN_mem]
theorem nubN_id : ∀ {ks : List NestedKey}, ks.Nodup → nubN ks = ks
  | [], _ => rfl
  | k :: ks, h => by
    obtain ⟨h1, h2⟩ := List.nodup_cons.mp h
    rw [nubN, nubN_id h2]
    congr 1
    refine List.filter_eq_self.mpr fun j hj => decide_eq_true fun e => h1 (e ▸ hj)
/-- the keys of tuples -/
def keysT (ds : List D) : List NestedKey := ds.filterMap keyD
def setOk (ds : List D) : Bool := ds.all tupKB && decide (ds.length ≤ 6000)
def dLenSet : D → R D
  | .list ds => guardR (setOk ds) (.int (nubN (keysT ds)).length)
  | _ => .stuck
def eLenSet (F : EV) : EV := fun ρ => F ρ >>= dLenSet
@[simp] theorem x_eLenSet (F : EV) (ρ : Rho) : eLenSet F ρ = (F ρ >>= dLenSet) := id rfl
section
variable {X : Cx} {pins : List (Addr × Obj)} {σ : St} {H Z : Hp} {s : Shared}
theorem keyL_of (I : Inv X pins σ H s) (sz : Same Z H) : ∀ {xs : List V} {ds : List D} {us : List Value}, RDs X.w X.K Z xs ds → Vals xs us → ds.all tupKB = true →
    ∃ ks : KeyL, us = ks.map (fun p => Value.ref p.1) ∧ xs = ks.map (fun p => V.ref p.1) ∧ (∀ p ∈ ks, IsN X.prog X.w s.heap p.2 p.1) ∧ keysT ds = ks.map (·.2) ∧ ∀ p ∈ ks, ∃ d ∈ ds, keyD d = some p.2 ∧ RD X.w X.K Z (.ref p.1) d
  | _, _, _, .nil, .nil, _ => ⟨[], rfl, rfl, fun _ h => (nomatch h), rfl, fun _ h => (nomatch h)⟩
  | _, _, _, .cons (v := v) (d := d) (ds := ds) h t, .cons r rr, hk => by
    rw [List.all_cons, Bool.and_eq_true] at hk
    obtain ⟨k, e1, e2⟩ := tupKB_key hk.1
    obtain ⟨ks, a1, a2, a3, a4, a5⟩ := keyL_of I sz t rr hk.2
    have nk := rd_nested I sz _ _ _ _ h r e1
    cases h with
    | tup h1 h2 =>
      rename_i a xs0 ds0
      cases r
      refine ⟨(a, .tup k) :: ks, by rw [List.map_cons, a1], by rw [List.map_cons, a2], fun p hp => ?_, ?_, fun p hp => ?_⟩
      · rcases List.mem_cons.mp hp with rfl | hp
        · exact ⟨nk, e2⟩
        · exact a3 p hp
      · unfold keysT at a4 ⊢
        rw [List.filterMap_cons_some e1, a4]; rfl
      · rcases List.mem_cons.mp hp with rfl | hp
        · exact ⟨_, List.mem_cons_self, e1, .tup h1 h2⟩
        · obtain ⟨d, q1, q2⟩ := a5 p hp
          exact ⟨d, List.mem_cons_of_mem _ q1, q2⟩
    | _ => cases hk.1
theorem got_perm {P : Program} {w : World} {h : Heap} {a : Addr} {ks L : KeyL} {es : Array (Int × Value)} {ep : Nat} {t : SetTable} (R : SetN P w h a L es ep t) (g : GotN ks ks.length L) : (L.map (·.2)).Perm (nubN (ks.map (·.2))) := by
  refine nubN_perm R.nd fun j => ⟨fun hj => ?_, fun hj => ?_⟩
  · obtain ⟨p, hp, rfl⟩ := List.mem_map.mp hj
    exact List.mem_map.mpr ⟨p, List.mem_of_mem_take (g.sub p hp), rfl⟩
  · obtain ⟨p, hp, rfl⟩ := List.mem_map.mp hj
    exact g.all p (by rw [List.take_length]; exact hp)
end
section
variable {X : Cx} {W : WX} {a : Expr} {F : EV}
theorem ev_lenSet {p p2 q pos : Pos} (hu : HasRoom X) (hc : X.calm = true) (hm : X.mg "len" = none) (hm2 : X.mg "set" = none) (ha : Ev X W a F) (hg : Gl X "len" := by rfl) (hg2 : Gl X "set" := by rfl)
    (na : starEach [a] X.env = (false, eval a X.env) :: starEach [] X.env := by rfl) : Ev X W (.Call (.Name "len" p) [.Call (.Name "set" p2) [a] [] q] [] pos) (eLenSet F) := by
  refine ⟨fun {Z0 H0 Z H σ ρ Q} r qq pins s I => ?_⟩
  have post : Post X W Z H σ (F ρ) (QV X Z H fun x H1 => ∃ Z1 d, F ρ = .ok d ∧ Ext Z H Z1 H1 ∧ RD X.w X.K Z1 x d) := by
    unfold eLenSet at qq
    cases e : F ρ with
    | ok d => exact fun v Z' H' x rd => ⟨Z', d, rfl, x, rd⟩
    | exc y => rw [e] at qq; exact qq
    | stuck => rw [e] at qq; exact qq
  refine Call_ (ld_blt I hg hm PySem.boot_len ?_)
  refine PyProof.Rows.callWith_builtin1 (PyProof.Rows.args_cons ?_ rfl) rfl rfl
  refine Call_ (ld_blt I hg2 hm2 PyProof.Rows.boot_set ?_)
  refine PyProof.Rows.callWith_type1 (PyProof.Rows.args_cons (thn (ha.go r post pins s I) fun v s1 ⟨x, H1, I1, r1, q1⟩ => PyProof.Rows.args_nil ?_) na) na rfl
  obtain ⟨Z1, d, e, x1, rd⟩ := q1
  unfold eLenSet at qq
  rw [e] at qq
  have qq : Post X W Z H σ (dLenSet d) (QV X Z H Q) := qq
  unfold dLenSet at qq
  cases d with
  | list ds =>
    obtain ⟨ok, qq⟩ := Post.guard qq
    unfold setOk at ok
    rw [Bool.and_eq_true] at ok
    have hlen := of_decide_eq_true ok.2
    cases rd with
    | lst h1 rds =>
      rename_i l xs
      obtain ⟨its, rv, pl, hz⟩ := I1.list (.inl (.inl (x1.zh _ _ h1)))
      obtain ⟨ks, a1, a2, a3, a4, a5⟩ := keyL_of I1 x1.zh rds rv ok.1
      cases r1
      have hl2 : ks.length = ds.length := by rw [← rds.length, a2, List.length_map]
      refine call_set_n ks (I1.ok.hd hc) pl.isList (by rw [← a1]) a3 (by omega) (by have hu : X.A.units + 100 < cLine := hu; omega) fun h' tk L es ep t R g kp => ?_
      refine PyProof.Rows.args_nil ?_
      obtain ⟨o, ho, hex, hd⟩ := R.ob
      have I2 : Inv X pins σ H1 { s1 with heap := h', toks := tk } := I1.kept kp
      have pm := (got_perm R g).length_eq
      rw [List.length_map, ← a4] at pm
      have fit : (es.size : Int) < 2 ^ 63 := by rw [rows_size R.rows]; have := R.few; omega
      refine call_len_set ho hex hd (SetN.fits (s := { s1 with heap := h' }) R) fit ⟨.int (nubN (keysT ds)).length, H1, I2.tok _, ⟨_, by rw [rows_size R.rows, pm]⟩, qq _ Z1 H1 x1 (.int _)⟩
  | _ => exact qq.elim
end
end PQ

/-! PQ.46: t * 1 of a tuple -/
namespace PQ
open PySem PySem.Spec PyProof.Rows L2
theorem tuple_mul1 (l : Addr) (items : Array Value) (n : Nat) (dd : Option Addr) (sl : Array (Option Value)) (x : Int) (u : Tok) (c0 : (decide (x < -(2 ^ 63)) || decide (x ≥ 2 ^ 63)) = false) (c1 : (items.isEmpty || x == 1) = true) :
    Meets (Builtin.«tuple.__mul__» ⟨[.ref l, .int x u], []⟩) (fun _ R s => s.heap.get? l = some { cls := .type "tuple", dict := dd, data := .seq items n, slots := sl } ∧ R (.ok (.ret (Value.ref l))) s) :=
  .of_wp fun prog w A R s h => by
    obtain ⟨hp, g, d, tk, os⟩ := s
    obtain ⟨hl, h⟩ := h
    have f1 := AutoSeq1.idx_int
    wp_walk using wpAny_loadPart' hl
    repeat (first
      | (refine wpAny_ite_false (decide_eq_false (by rw [c0]; exact Bool.false_ne_true)) ?_; wp_walk using wpAny_loadPart' hl)
      | (refine wpAny_ite_true (decide_eq_true c1) ?_; wp_walk using wpAny_loadPart' hl))
    exact ⟨_, rfl, h⟩
def rRep1 (K : PySem.W.Frag) : R2 := fun x y H Q => ∃ l xs, x = .ref l ∧ y = .int 1 ∧ SqT K H l xs ∧ Q (.ref l) H
section
variable {X : Cx}
theorem op_rep1 : OpR X (binaryOp .Mult) (rRep1 X.K) := by
  intro pins s σ H x y v u Q I rx ry h
  obtain ⟨l, xs, rfl, rfl, hT, q⟩ := h
  cases rx
  obtain ⟨t, rfl⟩ := ry
  obtain ⟨its, r, ⟨⟨cls, dd, data, sl⟩, ho, hc, n, hd⟩, hs⟩ := I.tuple hT
  simp only at hc hd
  subst hc hd
  refine wpAny_binaryOp_repeat_ref (T := "tuple") (U := "int") (by decide) ⟨_, ho, rfl⟩ (fun s' => typeIs_int s' 1 t) noFill_tuple_mul F.fills_int_mul F.slot_int_rmul repeat_tuple F.slot_int_index.lookup
    (call_meets F.slot_int_rmul (typeIs_int s 1 t) F.entry_int_rmul (F.args_int_rmul_2 _ _) (int_rmul_tuple 1 t l its.toArray n dd sl)
      ⟨ho, rfl, ⟨_, ho, rfl⟩, call_meets F.slot_tuple_mul ⟨_, ho, rfl⟩ F.entry_tuple_mul (F.args_tuple_mul_2 _ _) (tuple_mul1 l its.toArray n dd sl 1 t (by decide) (by simp)) ⟨ho, ?_⟩⟩)
  exact ⟨.ref l, H, I, rfl, q⟩
end
def dMulT : D → D → R D
  | .tuple xs, .int 1 => .ok (.tuple xs)
  | x, y => dMul x y
theorem cl_mulT (x y : D) : (dMulT x y).clean := by
  unfold dMulT
  split
  · trivial
  · exact cl_mul _ _
@[simp] theorem x_dMulT1 (xs : List D) : dMulT (.tuple xs) (.int 1) = .ok (.tuple xs) := id rfl
theorem x_dMulT (xs : List D) (k : Int) (h : k ≠ 1) : dMulT (.tuple xs) (.int k) = dMul (.tuple xs) (.int k) := by
  unfold dMulT
  split
  · rename_i e1 e2; cases e2; exact absurd rfl h
  · rfl
section
variable {X : Cx} {W : WX} {a b : Expr} {F G : EV} {pos : Pos}
theorem od_mulT : OpD X (fun x y H Q => rMulAll X.K x y H Q ∨ rRep1 X.K x y H Q) dMulT := by
  intro Z H x y dx dy Q s rx ry h
  unfold dMulT at h
  split at h
  · cases ry
    obtain ⟨p, xs, rfl, h1, r1⟩ := rd_tup rx
    exact .inr ⟨p, xs, rfl, rfl, SqT.mono s h1, h _ _ _ (Ext.refl s) (.tup h1 r1)⟩
  · exact .inl (od_mul Z H x y _ _ Q s rx ry h)
theorem ev_mulT (ha : Ev X W a F) (hb : Ev X W b G) : Ev X W (.BinOp a .Mult b pos) (e2 dMulT F G) := ev_2 (pe_op (op_mulAll.or op_rep1)) od_mulT cl_mulT ha hb
end
end PQ

/-! PQ.47: sorted(set(xs)), xs a list of tuples -/
namespace PQ
open PySem PySem.Spec PyProof.Rows L2
open PySem.W (dataLt dataLe alike alikeAll keyToks toks_eqv AllAlike Sortable EachIs lex_pre)

/-! ### keys and their data -/
mutual
theorem data_eqv : ∀ a b : NestedKey, PyData.eqv a.data b.data = true → a = b
  | .none, .none, _ => rfl
  | .num a, .num b, h => by
    have : (a == b) = true := h
    rw [beq_iff_eq.mp this]
  | .text a, .text b, h => by
    have : (a == b) = true := h
    rw [beq_iff_eq.mp this]
  | .tup a, .tup b, h => by
    have : PyData.eqvAll (NestedKey.datas a) (NestedKey.datas b) = true := h
    rw [datas_eqv a b this]
  | .none, .num _, h | .none, .text _, h | .none, .tup _, h => by cases h
  | .num _, .none, h | .num _, .text _, h | .num _, .tup _, h => by cases h
  | .text _, .none, h | .text _, .num _, h | .text _, .tup _, h => by cases h
  | .tup _, .none, h | .tup _, .num _, h | .tup _, .text _, h => by cases h
theorem datas_eqv : ∀ a b : List NestedKey, PyData.eqvAll (NestedKey.datas a) (NestedKey.datas b) = true → a = b
  | [], [], _ => rfl
  | x :: xs, y :: ys, h => by
    have h : (PyData.eqv x.data y.data && PyData.eqvAll (NestedKey.datas xs) (NestedKey.datas ys)) = true := h
    rw [Bool.and_eq_true] at h
    rw [data_eqv x y h.1, datas_eqv xs ys h.2]
  | [], _ :: _, h => by cases h
  | _ :: _, [], h => by cases h
end
mutual
def noB : D → Bool
  | .none => true
  | .int _ => true
  | .str _ => true
  | .tuple ds => noBs ds
  | _ => false
def noBs : List D → Bool
  | [] => true
  | d :: ds => noB d && noBs ds
end
mutual
theorem key_back : ∀ (d : D) (k : NestedKey), noB d = true → keyD d = some k → k.data = d
  | .none, k, _, e => by simp [keyD] at e; subst e; rfl
  | .int i, k, _, e => by simp [keyD] at e; subst e; rfl
  | .str x, k, _, e => by simp [keyD] at e; subst e; rfl
  | .tuple ds, k, h, e => by
    rw [keyD, Option.map_eq_some_iff] at e
    obtain ⟨ks, hk, rfl⟩ := e
    have h : noBs ds = true := by simpa [noB] using h
    show PyData.tuple (NestedKey.datas ks) = _
    rw [keys_back ds ks h hk]
  | .bool _, k, h, _ => by simp [noB] at h
  | .list _, k, h, _ => by simp [noB] at h
  | .dict _, k, h, _ => by simp [noB] at h
theorem keys_back : ∀ (ds : List D) (ks : List NestedKey), noBs ds = true → keyDs ds = some ks → NestedKey.datas ks = ds
  | [], ks, _, e => by simp [keyDs] at e; subst e; rfl
  | d :: ds, ks, h, e => by
    simp only [keyDs, Option.bind_eq_some_iff, Option.map_eq_some_iff] at e
    obtain ⟨k, h1, ks', h2, rfl⟩ := e
    have h : noB d = true ∧ noBs ds = true := by simpa [noBs] using h
    show k.data :: NestedKey.datas ks' = _
    rw [key_back d k h.1 h1, keys_back ds ks' h.2 h2]
end
/-! ### the order of data decides -/
theorem le_trans' (a b c : D) (h1 : dataLe false id a b = true) (h2 : dataLe false id b c = true) : dataLe false id a c = true := by
  have h1 : (!dataLt b a) = true := h1
  have h2 : (!dataLt c b) = true := h2
  show (!dataLt c a) = true
  rw [Bool.not_eq_true'] at h1 h2 ⊢
  cases e : dataLt c a with
  | false => rfl
  | true =>
    rcases PyProof.Rows.lex_negTrans (O := itemOrd) _ (keyToks b) _ e with q | q
    · exact absurd q (by rw [show PyProof.Rows.lexLt itemOrd (keyToks c) (keyToks b) = false from h2]; decide)
    · exact absurd q (by rw [show PyProof.Rows.lexLt itemOrd (keyToks b) (keyToks a) = false from h1]; decide)
theorem le_total' (a b : D) : (dataLe false id a b || dataLe false id b a) = true := by
  show (!dataLt b a || !dataLt a b) = true
  cases e1 : dataLt b a with
  | false => rfl
  | true =>
    cases e2 : dataLt a b with
    | false => rfl
    | true =>
      have := PyProof.Rows.lex_trans (O := itemOrd) _ _ _ e1 e2
      have z := PyProof.Rows.lex_irrefl (O := itemOrd) (keyToks b)
      rw [this] at z; cases z
theorem le_anti (a b : NestedKey) (hal : alike a.data b.data = true) (h1 : dataLe false id a.data b.data = true) (h2 : dataLe false id b.data a.data = true) : a = b := by
  have h1 : (!dataLt b.data a.data) = true := h1
  have h2 : (!dataLt a.data b.data) = true := h2
  rw [Bool.not_eq_true'] at h1 h2
  have e := PyProof.Rows.lex_total (O := itemOrd) _ _ h1 h2
  cases q : PyData.eqv a.data b.data with
  | true => exact data_eqv a b q
  | false =>
    exfalso
    have z := (toks_eqv a.data b.data hal).2 q [] [.inl 5]
    rw [show PyProof.Rows.lexLt itemOrd (keyToks a.data) (keyToks b.data) = false from h2, e, lex_pre] at z
    cases z
def nubD (ds : List D) : List D := (nubN (keysT ds)).map NestedKey.data
/-- two rows of keys with the same members are sorted alike -/
theorem sort_perm {ks L : List NestedKey} (pm : L.Perm ks) (hal : AllAlike (ks.map NestedKey.data)) : sortL (L.map NestedKey.data) = sortL (ks.map NestedKey.data) := by
  unfold sortL
  have p1 : (L.map NestedKey.data).mergeSort (dataLe false id) |>.Perm ((ks.map NestedKey.data).mergeSort (dataLe false id)) :=
    (List.mergeSort_perm _ _).trans ((pm.map _).trans (List.mergeSort_perm _ _).symm)
  refine List.Perm.eq_of_pairwise (le := fun a b => dataLe false id a b = true) (fun a b ha hb h1 h2 => ?_) (List.pairwise_mergeSort le_trans' le_total' _) (List.pairwise_mergeSort le_trans' le_total' _) p1
  have ha := (List.mergeSort_perm _ _).mem_iff.mp ha
  have hb := (List.mergeSort_perm _ _).mem_iff.mp hb
  obtain ⟨x, hx, rfl⟩ := List.mem_map.mp ha
  obtain ⟨y, hy, rfl⟩ := List.mem_map.mp hb
  have : alike x.data y.data = true := hal _ (List.mem_map_of_mem (pm.mem_iff.mp hx)) _ (List.mem_map_of_mem hy)
  rw [le_anti x y this h1 h2]
/-! ### the rule -/
def dSortSet : D → R D
  | .list ds => guardR (setOk ds && noBs ds && decide (ds.length ≤ 4000) && sortOk (nubD ds)) (.list (sortL (nubD ds)))
  | _ => .stuck
def eSortSet (F : EV) : EV := fun ρ => F ρ >>= dSortSet
@[simp] theorem x_eSortSet (F : EV) (ρ : Rho) : eSortSet F ρ = (F ρ >>= dSortSet) := id rfl
open PySem.W (SortsAt copyHeap sortingHeap sortVals dataKind)
section
variable {prog : Program} {w : World} {A : Around} {E : Value → Shared → Prop} {s : Shared}
/-- sorted(a set) -/
theorem sorted_setN {a : Addr} {L : KeyL} {es : Array (Int × Value)} {ep : Nat} {t : SetTable} {Q : Value → Shared → Prop} (R : SetN prog w s.heap a L es ep t) (hh : A.handled = none) (hsz : L.length ≤ 4000)
    (hR : ∀ p ∈ L, ∃ as, Reads s.heap (.ref p.1) p.2.data as) (hal : AllAlike (L.map fun p => p.2.data)) (hk : Sortable (L.map fun p => p.2.data) ∨ ((L.map fun p => p.2.data).length ≤ 1 ∧ ∀ d ∈ L.map fun p => p.2.data, d ≠ .none))
    (hu : ∀ p ∈ L, A.units + 2 + p.2.data.depth < cLine) {RR : Value → D → Prop} (hRR : ∀ p ∈ L, RR (.ref p.1) p.2.data)
    (hQ : ∀ s' p (out : List Value) (c : Nat) (L' : KeyL), (∀ b o, s.heap.get? b = some o → s'.heap.get? b = some o) → s'.gens = s.gens → s'.os = s.os → s.heap.objs.size ≤ p →
      s'.heap.get? p = some (seqObj "list" out.toArray c) → L'.Perm L → out.length = L.length → EachIs RR out (sortL (L'.map fun q => q.2.data)) → Q (.ref p) s') :
    wpAny (model prog w) A (call (.builtin "sorted") [.ref a]) Q E s := by
  obtain ⟨o, ho, hex, hd⟩ := R.ob
  have hsz2 := rows_size R.rows
  refine Calls.call_function_entry kind_sorted plain_sorted entry_sorted (args_sorted1 _) ?_
  unfold Builtin.«sorted»
  refine wpAny_bind (m := checkCount "sorted" 1 1 _) (wpAny_pure ?_)
  refine wpAny_bind (collect_set (A := A.in1) hh ⟨o, ho, hex.1, hd⟩ (SetN.fits (s := s) R) (by unfold scanBound; omega) R.tab.ris R.led fun s1 vs k1 hz g1 o1 pm => ?_)
  have hes : es.toList.map (·.2) = L.map fun q => Value.ref q.1 := by
    rw [R.rows]
    unfold rowsN
    rw [List.map_map]; rfl
  rw [hes] at pm
  obtain ⟨L1, pL, e1⟩ := L2.perm_lift (fun q : Addr × NestedKey => Value.ref q.1) pm L rfl
  have mem : ∀ q ∈ L1, q ∈ L := fun q hq => pL.mem_iff.mp hq
  have hvl : vs.length = L.length := by rw [pm.length_eq, List.length_map]
  refine wpAny_bind (wpAny_newList ?_ (by rw [sizeLine_eq]; omega))
  have hoL : (s1.heap.push (seqObj "list" vs.toArray 0)).get? s1.heap.objs.size = some (seqObj "list" vs.toArray 0) := Heap.get?_push_size _ rfl
  have keep : ∀ b u, s.heap.get? b = some u → (sortingHeap (s1.heap.push (seqObj "list" vs.toArray 0)) s1.heap.objs.size vs).get? b = some u := fun b u e => by
    have q := k1 b u e
    exact PySem.W.sortingHeap_old (Nat.ne_of_lt (Heap.lt_size q)) (Heap.get?_push_of_some _ q)
  have each : ∀ {T : Value → D → Prop} (L1 : KeyL), (∀ q ∈ L1, T (.ref q.1) q.2.data) → EachIs T (L1.map fun q => Value.ref q.1) (L1.map fun q => q.2.data) := by
    intro T L1
    induction L1 with
    | nil => intro _; exact .nil
    | cons q L1 ih => intro hT; exact .cons (hT q List.mem_cons_self) (ih fun r hr => hT r (List.mem_cons_of_mem _ hr))
  have er : EachIs (fun v d => ∃ as, Reads (sortingHeap (s1.heap.push (seqObj "list" vs.toArray 0)) s1.heap.objs.size vs) v d as) vs (L1.map fun q => q.2.data) := by
    have := each (T := fun v d => ∃ as, Reads (sortingHeap (s1.heap.push (seqObj "list" vs.toArray 0)) s1.heap.objs.size vs) v d as) L1 fun q hq => by
      obtain ⟨as, r⟩ := hR q (mem q hq)
      exact ⟨as, Reads.keeps keep r⟩
    rwa [e1] at this
  have eR : EachIs RR vs (L1.map fun q => q.2.data) := by
    rw [← e1]
    exact each L1 fun q hq => hRR q (mem q hq)
  have pd : (L1.map fun q => q.2.data).Perm (L.map fun q => q.2.data) := pL.map _
  have hal1 : AllAlike (L1.map fun q => q.2.data) := fun d hd d' hd' => hal d (pd.mem_iff.mp hd) d' (pd.mem_iff.mp hd')
  have hk1 : Sortable (L1.map fun q => q.2.data) ∨ ((L1.map fun q => q.2.data).length ≤ 1 ∧ ∀ d ∈ L1.map fun q => q.2.data, d ≠ .none) := by
    rcases hk with hk | ⟨h1, h2⟩
    · refine .inl ?_
      rcases hk with hk | hk
      · exact .inl fun d hd => hk d (pd.mem_iff.mp hd)
      · exact .inr fun d hd => hk d (pd.mem_iff.mp hd)
    · exact .inr ⟨by rw [pd.length_eq]; exact h1, fun d hd => h2 d (pd.mem_iff.mp hd)⟩
  have S := SortsAt.keepU (prog := prog) (w := w) (A := A.in1.in1) (s := { s1 with heap := sortingHeap (s1.heap.push (seqObj "list" vs.toArray 0)) s1.heap.objs.size vs }) er hal1 hk1 (fun d hd => by
    obtain ⟨q, hq, rfl⟩ := List.mem_map.mp hd
    have := hu q (mem q hq)
    simp only [Around.in1]
    omega)
  refine wpAny_bind (wpAny_holding (wpAny_call_entry_kw slot_list_sort ⟨_, hoL, rfl⟩ entry_list_sort ?body (args_list_sort _)))
  case body =>
    show wpAny (model prog w) A.in1.in1 (Builtin.«list.sort» ⟨[.ref s1.heap.objs.size], []⟩) _ _ _
    refine PySem.W.list_sort_vals (s := { s1 with heap := s1.heap.push (seqObj "list" vs.toArray 0) }) hoL S (by rw [sizeLine_eq]; omega) ⟨_, rfl, wpAny_pure ⟨_, rfl, ?_⟩⟩
    have hm : (L1.map fun q => q.2.data).map id = L1.map fun q => q.2.data := List.map_id _
    have out := PySem.W.sortVals_data (h' := sortingHeap (s1.heap.push (seqObj "list" vs.toArray 0)) s1.heap.objs.size vs) (enc := id) false eR er (by rw [hm]; exact hal1)
    rw [hm] at out
    have ol := PySem.W.sortVals_length (κ := dataKind (sortingHeap (s1.heap.push (seqObj "list" vs.toArray 0)) s1.heap.objs.size vs) (L1.map fun q => q.2.data)) (vs := vs) false rfl
    generalize sortVals (dataKind (sortingHeap (s1.heap.push (seqObj "list" vs.toArray 0)) s1.heap.objs.size vs) (L1.map fun q => q.2.data)) false vs vs = ov at out ol ⊢
    obtain ⟨c, hc⟩ := PyProof.Rows.sortedHeap_at (vs := vs) (out := ov.toArray) hoL
    refine hQ _ s1.heap.objs.size ov c L1 (fun b u e => ?_) g1 o1 hz hc pL (by rw [ol, hvl]) out
    have q := k1 b u e
    have hlt := Heap.lt_size q
    show (sortedHeap (s1.heap.push (seqObj "list" vs.toArray 0)) s1.heap.objs.size vs ov.toArray).get? b = some u
    rw [PyProof.Rows.sortedHeap_old (Nat.ne_of_lt hlt) (by rw [size_push']; exact Nat.lt_succ_of_lt hlt)]
    exact Heap.get?_push_of_some _ q
end
end PQ

/-! PQ.48: sorted(set(xs)): the rule -/
namespace PQ
open PySem PySem.Spec PyProof.Rows L2
open PySem.W (AllAlike Sortable EachIs)
theorem noBs_mem : ∀ {ds : List D} {d : D}, noBs ds = true → d ∈ ds → noB d = true
  | e :: ds, d, h, hd => by
    have h : noB e = true ∧ noBs ds = true := by simpa [noBs] using h
    rcases List.mem_cons.mp hd with rfl | hd
    · exact h.1
    · exact noBs_mem h.2 hd
section
variable {X : Cx} {W : WX} {a : Expr} {F : EV}
theorem eo_sortSet {p p2 q pos : Pos} (hu : HasRoom X) (hc : X.calm = true) (hm : X.mg "sorted" = none) (hm2 : X.mg "set" = none) (ha : Ev X W a F) (hg : Gl X "sorted" := by rfl) (hg2 : Gl X "set" := by rfl)
    (na : starEach [a] X.env = (false, eval a X.env) :: starEach [] X.env := by rfl) : Eo X W (.Call (.Name "sorted" p) [.Call (.Name "set" p2) [a] [] q] [] pos) (eSortSet F) := by
  refine ⟨fun {Z0 H0 Z H σ ρ Q} r qq pins s I => ?_⟩
  have post : Post X W Z H σ (F ρ) (QV X Z H fun x H1 => ∃ Z1 d, F ρ = .ok d ∧ Ext Z H Z1 H1 ∧ RD X.w X.K Z1 x d) := by
    unfold eSortSet at qq
    cases e : F ρ with
    | ok d => exact fun v Z' H' x rd => ⟨Z', d, rfl, x, rd⟩
    | exc y => rw [e] at qq; exact qq
    | stuck => rw [e] at qq; exact qq
  refine Call_ (ld_blt I hg hm boot_sorted ?_)
  refine PyProof.Rows.callWith_builtin1 (PyProof.Rows.args_cons ?_ rfl) rfl rfl
  refine Call_ (ld_blt I hg2 hm2 PyProof.Rows.boot_set ?_)
  refine PyProof.Rows.callWith_type1 (PyProof.Rows.args_cons (thn (ha.go r post pins s I) fun v s1 ⟨x, H1, I1, r1, q1⟩ => PyProof.Rows.args_nil ?_) na) na rfl
  obtain ⟨Z1, d, e, x1, rd⟩ := q1
  unfold eSortSet at qq
  rw [e] at qq
  have qq : Post X W Z H σ (dSortSet d) (fun d => ∀ a Z' H', Ext Z H Z' H' → H a = none → Own X.w X.K Z' H' a d → Q (.ref a) H') := qq
  unfold dSortSet at qq
  cases d with
  | list ds =>
    obtain ⟨ok, qq⟩ := Post.guard qq
    simp only [Bool.and_eq_true, decide_eq_true_eq] at ok
    obtain ⟨⟨⟨ok1, ok2⟩, ok3⟩, ok4⟩ := ok
    unfold setOk at ok1
    rw [Bool.and_eq_true] at ok1
    cases rd with
    | lst h1 rds =>
      rename_i l xs
      obtain ⟨its, rv, pl, hz⟩ := I1.list (.inl (.inl (x1.zh _ _ h1)))
      obtain ⟨ks, a1, a2, a3, a4, a5⟩ := keyL_of I1 x1.zh rds rv ok1.1
      cases r1
      have hl2 : ks.length = ds.length := by rw [← rds.length, a2, List.length_map]
      refine call_set_n ks (I1.ok.hd hc) pl.isList (by rw [← a1]) a3 (by omega) (by have hu : X.A.units + 100 < cLine := hu; omega) fun h' tk L es ep t R g kp => ?_
      refine PyProof.Rows.args_nil ?_
      have I2 : Inv X pins σ H1 { s1 with heap := h', toks := tk } := I1.kept kp
      have pm := got_perm R g
      rw [← a4] at pm
      -- the members as data
      have rd_of : ∀ p ∈ L, RD X.w X.K Z1 (.ref p.1) p.2.data := fun p hp => by
        obtain ⟨d, q1, q2, q3⟩ := a5 p (List.mem_of_mem_take (g.sub p hp))
        rw [key_back d p.2 (noBs_mem ok2 q1) q2]
        exact q3
      have hL : (L.map fun p => p.2.data) = (L.map (·.2)).map NestedKey.data := by rw [List.map_map]; rfl
      have pd : (L.map fun p => p.2.data).Perm (nubD ds) := by rw [hL]; exact pm.map _
      obtain ⟨k1, k2, k3, k4, k5⟩ := sortOk_of ok4
      have hal : AllAlike (L.map fun p => p.2.data) := fun d hd d' hd' => k3 d (pd.mem_iff.mp hd) d' (pd.mem_iff.mp hd')
      have hk : Sortable (L.map fun p => p.2.data) ∨ ((L.map fun p => p.2.data).length ≤ 1 ∧ ∀ d ∈ L.map fun p => p.2.data, d ≠ .none) := by
        rcases k4 with hk | ⟨h1, h2⟩
        · refine .inl ?_
          rcases hk with hk | hk
          · exact .inl fun d hd => hk d (pd.mem_iff.mp hd)
          · exact .inr fun d hd => hk d (pd.mem_iff.mp hd)
        · exact .inr ⟨by rw [pd.length_eq]; exact h1, fun d hd => h2 d (pd.mem_iff.mp hd)⟩
      have mem : ∀ p ∈ L, p.2.data ∈ nubD ds := fun p hp => pd.mem_iff.mp (List.mem_map_of_mem (f := fun p : Addr × NestedKey => p.2.data) hp)
      have plain_of : ∀ {es : List D} {d : D}, PyData.plainAll es = true → d ∈ es → d.plain = true := by
        intro es d h hd
        induction es with
        | nil => cases hd
        | cons x es ih =>
          have h : x.plain = true ∧ PyData.plainAll es = true := by simpa [PyData.plainAll] using h
          rcases List.mem_cons.mp hd with rfl | hd
          · exact h.1
          · exact ih h.2 hd
      have hlen : L.length ≤ 4000 := by
        have := g.len
        omega
      refine sorted_setN (s := { s1 with heap := h', toks := tk }) R (I1.ok.hd hc) hlen (fun p hp => ?_) hal hk (fun p hp => ?_) (RR := fun u d => ∃ x, RelV x u ∧ RD X.w X.K Z1 x d) (fun p hp => ⟨.ref p.1, rfl, rd_of p hp⟩) fun s' p out c L' kk hg' ho' hp hc' pL ol eo => ?_
      · have hd := plain_of k2 (mem p hp)
        exact Dp.reads I2 _ _ _ (((rd_of p hp).mono x1.zh).dp (plain_noDict _ hd)) rfl
      · have := depth_mem (mem p hp)
        have hu : X.A.units + 100 < cLine := hu
        omega
      · obtain ⟨ys, r2, rd2⟩ := rd_each eo
        have es2 : sortL (L'.map fun q => q.2.data) = sortL (nubD ds) := by
          have e3 : (L'.map fun q => q.2.data) = (L'.map (·.2)).map NestedKey.data := by rw [List.map_map]; rfl
          rw [e3]
          exact sort_perm ((pL.map (·.2)).trans pm) k3
        rw [es2] at rd2
        have hn : H1 p = none := I2.hok.fresh hp
        have hyl : ys.length ≤ sizeLine := by rw [r2.length, ol, sizeLine_eq]; omega
        have J : Inv X pins σ (upd H1 p (.lst ys)) { ({ s1 with heap := h', toks := tk } : Shared) with heap := s'.heap, gens := s'.gens, drawn := s'.drawn, toks := s'.toks } :=
          I2.call (ch := []) (Un.laid kk hp hn) (I2.hok.laid kk hp ⟨hyl, out, c, r2, hc'⟩) (by rw [hg']; exact I2.bare) (fun _ z => nomatch z)
        have e' : s' = { ({ s1 with heap := h', toks := tk } : Shared) with heap := s'.heap, gens := s'.gens, drawn := s'.drawn, toks := s'.toks } := by
          cases s'
          cases s1
          cases ho'
          rfl
        rw [e']
        have hH : H p = none := by
          cases z : H p with
          | none => rfl
          | some o => have := x1.hh _ _ z; rw [hn] at this; cases this
        exact ⟨.ref p, _, J, rfl, qq p Z1 _ (x1.trans (Ext.newO x1.zh hn)) hH (.lst (zfree x1.zh hn) upd_same rd2)⟩
  | _ => exact qq.elim
end
end PQ

/-! PQ.49: a dict walked: for k in d, [.. for k in d] -/
namespace PQ
open PySem PySem.Spec PyProof.Rows L2
def DAlive (K : PySem.W.Frag) (d : Addr) (o : Obj) (H : Hp) : Prop := H d = some (rawH d o) ∨ K.lookup d = some o
def Itkd (K : PySem.W.Frag) (d : Addr) (o : Obj) (xs : List V) : It :=
  ⟨fun i H => DAlive K d o H ∧ i < xs.length, fun i H x H' => H' = H ∧ xs[i]? = some x, fun i H => DAlive K d o H ∧ xs.length ≤ i⟩
theorem alive_get {X : Cx} {pins : List (Addr × Obj)} {σ : St} {H : Hp} {s : Shared} (I : Inv X pins σ H s) {d : Addr} {o : Obj} (h : DAlive X.K d o H) : s.heap.get? d = some o := by
  rcases h with h | h
  · exact raw_get I h
  · exact k_get I h
theorem turn_kd {P : Program} {w : World} {K : PySem.W.Frag} {tg : Expr} {d : Addr} {o : Obj} {es : Array DictEntry} {ep : Nat} {xs : List V} (it : Addr) (hod : o.data = .dict es ep) (hv : Vals xs (es.toList.map (·.key))) :
    Turn P w K tg (Itkd K d o xs) [it] it (fun i h => h.IsKeyIter it d i xs.length ep) where
  mem := by simp
  obj := fun i h st b hb => by
    have e : b = it := by simpa using hb
    subst e
    obtain ⟨oi, e, c, dd⟩ := st
    exact ⟨oi, e, fun v z => by rw [dd] at z; cases z⟩
  keep := fun i h h' st k => st.at fun oi e => k it (by simp) oi e
  item := by
    intro X hP hw hK hc i pins s σ H E I hf st hg
    subst hP hw hK
    obtain ⟨hd, hi⟩ := hg
    obtain ⟨f0, f1, f2, f3, f4, f5⟩ := hf it (by simp)
    have hgd := alive_get I hd
    have hl : xs.length = es.size := (Paired.length hv).trans (by rw [List.length_map, Array.length_toList])
    obtain ⟨x, hx⟩ : ∃ x, xs[i]? = some x := ⟨xs[i], List.getElem?_eq_getElem hi⟩
    obtain ⟨u, hu, ru⟩ := paired_get hv hx
    rw [List.getElem?_map, Array.getElem?_toList] at hu
    obtain ⟨en, hen, rfl⟩ : ∃ en, es[i]? = some en ∧ en.key = u := by
      cases q : es[i]? with
      | none => rw [q] at hu; cases hu
      | some en => rw [q] at hu; exact ⟨en, rfl, Option.some.inj hu⟩
    refine next_key_item st hgd hod hl.symm hen fun h' st' sb => ?_
    have I1 : Inv X pins σ H { s with heap := h' } := I.turned (t' := s.toks) (fun b ob hb e => (sb.2 b hb).trans e) f0 f1 f3 f4 f5
    obtain ⟨oi, e, c, dd⟩ := id st'
    exact ⟨en.key, rfl, go_of (s := { s with heap := h' }) e c dd (by decide) ⟨x, H, I1, ru, ⟨rfl, hx⟩, st', fun b hb => (hf b hb).1⟩⟩
  done := by
    intro X hP hw hK hc i pins s σ H E I hf st hg
    subst hP hw hK
    obtain ⟨hd, hi⟩ := hg
    obtain ⟨f0, f1, f2, f3, f4, f5⟩ := hf it (by simp)
    have hgd := alive_get I hd
    have hl : xs.length = es.size := (Paired.length hv).trans (by rw [List.length_map, Array.length_toList])
    exact next_key_end (I.ok.hd hc) st hgd hod hl.symm hi fun h' eb => ⟨rfl, I.turned (t' := s.toks) (fun b ob hb e => eb b ob hb e) f0 f1 f3 f4 f5⟩
  self := fun A i s Q E st h => wpAny_pyIter_keyiter st h
def iKd (K : PySem.W.Frag) (td : TE) : TI := fun σ H R => td σ H fun x H1 => ∃ d o es ep xs, x = .ref d ∧ (d == sysModules) = false ∧ o.ExactDict ∧ o.data = .dict es ep ∧ Vals xs (es.toList.map (·.key)) ∧ DAlive K d o H1 ∧ R (Itkd K d o xs) H1
theorem pi_kd {X : Cx} {tg e : Expr} {td : TE} (he : PE X e td) : PI X tg e (iKd X.K td) := by
  refine ⟨fun pins s σ H R I h => ?_⟩
  refine thn (he.run pins s σ H _ I h) fun u s1 ⟨x, H1, I1, rx, d, o, es, ep, xs, ex, hs, hx, hdt, hv, al, q⟩ => ?_
  subst ex
  obtain rfl : u = Value.ref d := rx
  have hl : xs.length = es.size := (Paired.length hv).trans (by rw [List.length_map, Array.length_toList])
  refine iter_keys hs (alive_get I1 al) hx hdt (pi_one (tk := s1.toks) I1 _ (turn_kd _ hdt hv) ⟨_, Heap.get?_push_size _ rfl, rfl, ?_⟩ q)
  rw [hl]; rfl
section
variable {X : Cx} {W : WX} {a b c e tg : Expr} {es : List Expr} {pos p : Pos} {F G : EV} {Fs : EA}
theorem io_kd {Z : Hp} {d : Addr} {o : Obj} {xs : List V} {ds : List D} (h : Z d = some (rawH d o) ∨ X.K.lookup d = some o) (r : RDs X.w X.K Z xs ds) : ItOk X (Itkd X.K d o xs) Z ds := by
  have al : ∀ {Z' H' : Hp}, Same Z Z' → Same Z' H' → DAlive X.K d o H' := fun s1 s2 => h.imp (fun h => s2 _ _ (s1 _ _ h)) id
  refine ⟨fun s1 s2 => ⟨al s1 s2, by rw [r.length]; exact Nat.le_refl _⟩, fun s1 s2 e => ?_, fun s1 s2 e y => ?_⟩
  · obtain ⟨v, hv, _⟩ := r.get e
    exact ⟨al s1 s2, (List.getElem?_eq_some_iff.mp hv).1⟩
  · obtain ⟨rfl, hy⟩ := y
    obtain ⟨v, hv, rv⟩ := r.get e
    rw [hv] at hy; cases hy
    exact ⟨_, Ext.refl s2, rv.mono s1⟩
def seqOfD : D → R (List D)
  | .dict kvs => .ok (keysD kvs)
  | d => seqOf d
def iSeqD (F : EV) : EI := fun ρ => F ρ >>= seqOfD
@[simp] theorem x_iSeqD (F : EV) (ρ : Rho) : iSeqD F ρ = (F ρ >>= seqOfD) := id rfl
@[simp] theorem x_seqOfDD (kvs : List (D × D)) : seqOfD (.dict kvs) = .ok (keysD kvs) := id rfl
@[simp] theorem x_seqOfDL (ds : List D) : seqOfD (.list ds) = .ok ds := id rfl
@[simp] theorem x_seqOfDT (ds : List D) : seqOfD (.tuple ds) = .ok ds := id rfl
theorem ei_seqD (ha : Ei X W tg e (iSeq F)) (hb : Ev X W e F) : Ei X W tg e (iSeqD F) := by
  refine ⟨fun {Z0 H0 Z H σ ρ Q} r q => ?_⟩
  cases h : F ρ with
  | ok d =>
    by_cases hd : ∃ kvs, d = .dict kvs
    · obtain ⟨kvs, rfl⟩ := hd
      unfold iSeqD at q
      rw [h] at q
      refine toAtI (pi_kd pe_at) (hb.go r ?_)
      rw [h]
      intro v Z' H' x rv
      cases rv with
      | dct h1 h2 h3 h4 h5 h6 h7 =>
        obtain ⟨xs, p1, p2⟩ := rde_keys h7
        exact ⟨_, _, _, _, xs, rfl, h2, h3, h4, p1, h1.imp (x.zh _ _) id, q _ _ _ x (io_kd h1 p2)⟩
    · refine ha.go r ?_
      have e : iSeqD F ρ = iSeq F ρ := by
        unfold iSeqD iSeq
        rw [h]
        show seqOfD d = seqOf d
        cases d with
        | dict kvs => exact absurd ⟨kvs, rfl⟩ hd
        | _ => rfl
      rw [← e]
      exact q
  | exc x =>
    refine ha.go r ?_
    have e : iSeqD F ρ = iSeq F ρ := by unfold iSeqD iSeq; rw [h]; rfl
    rw [← e]; exact q
  | stuck =>
    refine ha.go r ?_
    have e : iSeqD F ρ = iSeq F ρ := by unfold iSeqD iSeq; rw [h]; rfl
    rw [← e]; exact q
end
end PQ

namespace PQ
open PySem PySem.Spec PyProof.Rows L2
def topS (i : Nat) : Stmt := PySem.Challenge.pw_marblewright_k56_whole_faults.main.body.getD i (.Pass ⟨0, 0, 0, 0⟩)
@[simp] abbrev c_MOST_SIDE : D := .int 16
@[simp] abbrev c_SIGNS : D := .str ".\\/LR<>X#"
@[simp] abbrev c_SWITCHES : D := .str "LR<>"
@[simp] abbrev c_LINKED : D := .str "<>"
@[simp] abbrev c_FORM : D := .tuple [.str "form"]
@[simp] abbrev c_OTHERS : D := .dict [(.str "L", .str "R"), (.str "R", .str "L"), (.str "<", .str ">"), (.str ">", .str "<")]
@[simp] abbrev c_MOST_MARBLES : D := .int 200
@[simp] abbrev c_STRAIGHT : D := .int 0
@[simp] abbrev c_WAYS : D := .dict [(.str ".", .int 0), (.str "/", .int (-1)), (.str "L", .int (-1)), (.str "<", .int (-1)), (.str "\\", .int 1), (.str "R", .int 1), (.str ">", .int 1)]
@[simp] abbrev c_STOP : D := .str "#"
@[simp] abbrev c_CROSSING : D := .str "X"
@[simp] abbrev c_SLOPES : D := .str "/\\"
@[simp] abbrev c_FREE : D := .str "LR"
@[simp] abbrev c_BENT : D := .str "bent"
@[simp] abbrev c_STUCK : D := .str "stuck"
structure Txt (P : Program) (w : World) (K : PySem.W.Frag) (mg : Str → Option Value) where
  f_is_whole : Addr
  d_is_whole : FuncData
  m_is_whole : mg "is_whole" = some (.ref f_is_whole)
  F_is_whole : Fun K "is_whole" "is_whole" (topS 13) f_is_whole d_is_whole
  b_is_whole : Binds K d_is_whole ["value", "least", "most"] []
  f_board_fault : Addr
  d_board_fault : FuncData
  m_board_fault : mg "board_fault" = some (.ref f_board_fault)
  F_board_fault : Fun K "board_fault" "board_fault" (topS 14) f_board_fault d_board_fault
  b_board_fault : Binds K d_board_fault ["value"] []
  f_check_board : Addr
  d_check_board : FuncData
  m_check_board : mg "check_board" = some (.ref f_check_board)
  F_check_board : Fun K "check_board" "check_board" (topS 15) f_check_board d_check_board
  b_check_board : Binds K d_check_board ["board"] []
  f_places_with : Addr
  d_places_with : FuncData
  m_places_with : mg "places_with" = some (.ref f_places_with)
  F_places_with : Fun K "places_with" "places_with" (topS 16) f_places_with d_places_with
  b_places_with : Binds K d_places_with ["board", "signs"] []
  f_group_at : Addr
  d_group_at : FuncData
  m_group_at : mg "group_at" = some (.ref f_group_at)
  F_group_at : Fun K "group_at" "group_at" (topS 17) f_group_at d_group_at
  b_group_at : Binds K d_group_at ["board", "place"] []
  f_is_place : Addr
  d_is_place : FuncData
  m_is_place : mg "is_place" = some (.ref f_is_place)
  F_is_place : Fun K "is_place" "is_place" (topS 18) f_is_place d_is_place
  b_is_place : Binds K d_is_place ["board", "place"] []
  f_turned_at : Addr
  d_turned_at : FuncData
  m_turned_at : mg "turned_at" = some (.ref f_turned_at)
  F_turned_at : Fun K "turned_at" "turned_at" (topS 19) f_turned_at d_turned_at
  b_turned_at : Binds K d_turned_at ["board", "places"] []
  f_check_column : Addr
  d_check_column : FuncData
  m_check_column : mg "check_column" = some (.ref f_check_column)
  F_check_column : Fun K "check_column" "check_column" (topS 26) f_check_column d_check_column
  b_check_column : Binds K d_check_column ["board", "column"] []
  f_way_at : Addr
  d_way_at : FuncData
  m_way_at : mg "way_at" = some (.ref f_way_at)
  F_way_at : Fun K "way_at" "way_at" (topS 27) f_way_at d_way_at
  b_way_at : Binds K d_way_at ["sign", "way"] []
  f_beyond : Addr
  d_beyond : FuncData
  m_beyond : mg "beyond" = some (.ref f_beyond)
  F_beyond : Fun K "beyond" "beyond" (topS 28) f_beyond d_beyond
  b_beyond : Binds K d_beyond ["board", "row", "column"] []
  f_behind : Addr
  d_behind : FuncData
  m_behind : mg "behind" = some (.ref f_behind)
  F_behind : Fun K "behind" "behind" (topS 29) f_behind d_behind
  b_behind : Binds K d_behind ["board", "row", "column"] []
  f_check_columns : Addr
  d_check_columns : FuncData
  m_check_columns : mg "check_columns" = some (.ref f_check_columns)
  F_check_columns : Fun K "check_columns" "check_columns" (topS 30) f_check_columns d_check_columns
  b_check_columns : Binds K d_check_columns ["board", "columns"] []
  f_faults_in : Addr
  d_faults_in : FuncData
  m_faults_in : mg "faults_in" = some (.ref f_faults_in)
  F_faults_in : Fun K "faults_in" "faults_in" (topS 36) f_faults_in d_faults_in
  b_faults_in : Binds K d_faults_in ["board"] []
  f_faults_of : Addr
  d_faults_of : FuncData
  m_faults_of : mg "faults_of" = some (.ref f_faults_of)
  F_faults_of : Fun K "faults_of" "faults_of" (topS 37) f_faults_of d_faults_of
  b_faults_of : Binds K d_faults_of ["board"] []
  f_check_fault : Addr
  d_check_fault : FuncData
  m_check_fault : mg "check_fault" = some (.ref f_check_fault)
  F_check_fault : Fun K "check_fault" "check_fault" (topS 38) f_check_fault d_check_fault
  b_check_fault : Binds K d_check_fault ["board", "fault"] []
  f_fall_with : Addr
  d_fall_with : FuncData
  m_fall_with : mg "fall_with" = some (.ref f_fall_with)
  F_fall_with : Fun K "fall_with" "fall_with" (topS 39) f_fall_with d_fall_with
  b_fall_with : Binds K d_fall_with ["board", "fault", "column"] []
  f_drop_with : Addr
  d_drop_with : FuncData
  m_drop_with : mg "drop_with" = some (.ref f_drop_with)
  F_drop_with : Fun K "drop_with" "drop_with" (topS 40) f_drop_with d_drop_with
  b_drop_with : Binds K d_drop_with ["board", "fault", "column"] []
  f_ends_in : Addr
  d_ends_in : FuncData
  m_ends_in : mg "ends_in" = some (.ref f_ends_in)
  F_ends_in : Fun K "ends_in" "ends_in" (topS 41) f_ends_in d_ends_in
  b_ends_in : Binds K d_ends_in ["board", "fault", "columns"] []
  f_ends_with : Addr
  d_ends_with : FuncData
  m_ends_with : mg "ends_with" = some (.ref f_ends_with)
  F_ends_with : Fun K "ends_with" "ends_with" (topS 42) f_ends_with d_ends_with
  b_ends_with : Binds K d_ends_with ["board", "fault", "columns"] []
  f_shows : Addr
  d_shows : FuncData
  m_shows : mg "shows" = some (.ref f_shows)
  F_shows : Fun K "shows" "shows" (topS 43) f_shows d_shows
  b_shows : Binds K d_shows ["board", "fault", "columns"] []
  f_hidden_in : Addr
  d_hidden_in : FuncData
  m_hidden_in : mg "hidden_in" = some (.ref f_hidden_in)
  F_hidden_in : Fun K "hidden_in" "hidden_in" (topS 44) f_hidden_in d_hidden_in
  b_hidden_in : Binds K d_hidden_in ["board", "columns"] []
  f_hidden : Addr
  d_hidden : FuncData
  m_hidden : mg "hidden" = some (.ref f_hidden)
  F_hidden : Fun K "hidden" "hidden" (topS 45) f_hidden d_hidden
  b_hidden : Binds K d_hidden ["board", "columns"] []
  f_alike : Addr
  d_alike : FuncData
  m_alike : mg "alike" = some (.ref f_alike)
  F_alike : Fun K "alike" "alike" (topS 46) f_alike d_alike
  b_alike : Binds K d_alike ["board", "columns"] []
  f__law_draws : Addr
  d__law_draws : FuncData
  m__law_draws : mg "_law_draws" = some (.ref f__law_draws)
  F__law_draws : Fun K "_law_draws" "_law_draws" (topS 48) f__law_draws d__law_draws
  b__law_draws : Binds K d__law_draws ["script", "many"] []
  f__law_board : Addr
  d__law_board : FuncData
  m__law_board : mg "_law_board" = some (.ref f__law_board)
  F__law_board : Fun K "_law_board" "_law_board" (topS 49) f__law_board d__law_board
  b__law_board : Binds K d__law_board ["draws", "signs"] []
  f__law_group : Addr
  d__law_group : FuncData
  m__law_group : mg "_law_group" = some (.ref f__law_group)
  F__law_group : Fun K "_law_group" "_law_group" (topS 50) f__law_group d__law_group
  b__law_group : Binds K d__law_group ["board", "place"] []
  f__law_turned : Addr
  d__law_turned : FuncData
  m__law_turned : mg "_law_turned" = some (.ref f__law_turned)
  F__law_turned : Fun K "_law_turned" "_law_turned" (topS 51) f__law_turned d__law_turned
  b__law_turned : Binds K d__law_turned ["board", "places"] []
  f__law_with : Addr
  d__law_with : FuncData
  m__law_with : mg "_law_with" = some (.ref f__law_with)
  F__law_with : Fun K "_law_with" "_law_with" (topS 53) f__law_with d__law_with
  b__law_with : Binds K d__law_with ["board", "fault", "column"] []
  f__law_ends : Addr
  d__law_ends : FuncData
  m__law_ends : mg "_law_ends" = some (.ref f__law_ends)
  F__law_ends : Fun K "_law_ends" "_law_ends" (topS 54) f__law_ends d__law_ends
  b__law_ends : Binds K d__law_ends ["board", "fault", "columns"] []
  f__law_error : Addr
  d__law_error : FuncData
  m__law_error : mg "_law_error" = some (.ref f__law_error)
  F__law_error : Fun K "_law_error" "_law_error" (topS 55) f__law_error d__law_error
  b__law_error : Binds K d__law_error ["call", "one", "two", "three"] []
  f_law : Addr
  d_law : FuncData
  m_law : mg "law" = some (.ref f_law)
  F_law : Fun K "law" "law" (topS 56) f_law d_law
  b_law : Binds K d_law ["script"] []
  C_BadBoard : Addr
  g_BadBoard : mg "BadBoard" = some (.ref C_BadBoard)
  x_BadBoard : PySem.W.excIn K C_BadBoard [.type "ValueError", .type "Exception", .type "BaseException", .type "object"] "ValueError.__new__" = true
  k_BadBoard : PySem.W.keepIn K (.ref C_BadBoard) = true
  b_BadBoard : PySem.W.subIn K (.ref C_BadBoard) (.type "BaseException") = some true
  t_BadBoard : PySem.W.typeIn K (.ref C_BadBoard) = some (.type "type")
  C_BadColumn : Addr
  g_BadColumn : mg "BadColumn" = some (.ref C_BadColumn)
  x_BadColumn : PySem.W.excIn K C_BadColumn [.type "ValueError", .type "Exception", .type "BaseException", .type "object"] "ValueError.__new__" = true
  k_BadColumn : PySem.W.keepIn K (.ref C_BadColumn) = true
  b_BadColumn : PySem.W.subIn K (.ref C_BadColumn) (.type "BaseException") = some true
  t_BadColumn : PySem.W.typeIn K (.ref C_BadColumn) = some (.type "type")
  C_BadColumns : Addr
  g_BadColumns : mg "BadColumns" = some (.ref C_BadColumns)
  x_BadColumns : PySem.W.excIn K C_BadColumns [.type "ValueError", .type "Exception", .type "BaseException", .type "object"] "ValueError.__new__" = true
  k_BadColumns : PySem.W.keepIn K (.ref C_BadColumns) = true
  b_BadColumns : PySem.W.subIn K (.ref C_BadColumns) (.type "BaseException") = some true
  t_BadColumns : PySem.W.typeIn K (.ref C_BadColumns) = some (.type "type")
  C_BadFault : Addr
  g_BadFault : mg "BadFault" = some (.ref C_BadFault)
  x_BadFault : PySem.W.excIn K C_BadFault [.type "ValueError", .type "Exception", .type "BaseException", .type "object"] "ValueError.__new__" = true
  k_BadFault : PySem.W.keepIn K (.ref C_BadFault) = true
  b_BadFault : PySem.W.subIn K (.ref C_BadFault) (.type "BaseException") = some true
  t_BadFault : PySem.W.typeIn K (.ref C_BadFault) = some (.type "type")
  e_BadBoard_BadBoard : PySem.W.exmOne K (.ref C_BadBoard) (.ref C_BadBoard) = some true
  e_BadBoard_BadColumn : PySem.W.exmOne K (.ref C_BadBoard) (.ref C_BadColumn) = some false
  e_BadBoard_BadColumns : PySem.W.exmOne K (.ref C_BadBoard) (.ref C_BadColumns) = some false
  e_BadBoard_BadFault : PySem.W.exmOne K (.ref C_BadBoard) (.ref C_BadFault) = some false
  e_BadColumn_BadBoard : PySem.W.exmOne K (.ref C_BadColumn) (.ref C_BadBoard) = some false
  e_BadColumn_BadColumn : PySem.W.exmOne K (.ref C_BadColumn) (.ref C_BadColumn) = some true
  e_BadColumn_BadColumns : PySem.W.exmOne K (.ref C_BadColumn) (.ref C_BadColumns) = some false
  e_BadColumn_BadFault : PySem.W.exmOne K (.ref C_BadColumn) (.ref C_BadFault) = some false
  e_BadColumns_BadBoard : PySem.W.exmOne K (.ref C_BadColumns) (.ref C_BadBoard) = some false
  e_BadColumns_BadColumn : PySem.W.exmOne K (.ref C_BadColumns) (.ref C_BadColumn) = some false
  e_BadColumns_BadColumns : PySem.W.exmOne K (.ref C_BadColumns) (.ref C_BadColumns) = some true
  e_BadColumns_BadFault : PySem.W.exmOne K (.ref C_BadColumns) (.ref C_BadFault) = some false
  e_BadFault_BadBoard : PySem.W.exmOne K (.ref C_BadFault) (.ref C_BadBoard) = some false
  e_BadFault_BadColumn : PySem.W.exmOne K (.ref C_BadFault) (.ref C_BadColumn) = some false
  e_BadFault_BadColumns : PySem.W.exmOne K (.ref C_BadFault) (.ref C_BadColumns) = some false
  e_BadFault_BadFault : PySem.W.exmOne K (.ref C_BadFault) (.ref C_BadFault) = some true
  z_abs : mg "abs" = none
  z_all : mg "all" = none
  z_any : mg "any" = none
  z_bool : mg "bool" = none
  z_enumerate : mg "enumerate" = none
  z_int : mg "int" = none
  z_isinstance : mg "isinstance" = none
  z_len : mg "len" = none
  z_list : mg "list" = none
  z_range : mg "range" = none
  z_set : mg "set" = none
  z_sorted : mg "sorted" = none
  z_str : mg "str" = none
  z_tuple : mg "tuple" = none
  c_MOST_SIDE : GC w K mg "MOST_SIDE" (c_MOST_SIDE)
  c_SIGNS : GC w K mg "SIGNS" (c_SIGNS)
  c_SWITCHES : GC w K mg "SWITCHES" (c_SWITCHES)
  c_LINKED : GC w K mg "LINKED" (c_LINKED)
  c_FORM : GC w K mg "FORM" (c_FORM)
  c_OTHERS : GC w K mg "OTHERS" (c_OTHERS)
  c_MOST_MARBLES : GC w K mg "MOST_MARBLES" (c_MOST_MARBLES)
  c_STRAIGHT : GC w K mg "STRAIGHT" (c_STRAIGHT)
  c_WAYS : GC w K mg "WAYS" (c_WAYS)
  c_STOP : GC w K mg "STOP" (c_STOP)
  c_CROSSING : GC w K mg "CROSSING" (c_CROSSING)
  c_SLOPES : GC w K mg "SLOPES" (c_SLOPES)
  c_FREE : GC w K mg "FREE" (c_FREE)
  c_BENT : GC w K mg "BENT" (c_BENT)
  c_STUCK : GC w K mg "STUCK" (c_STUCK)
section
variable {P : Program} {w : World} {K : PySem.W.Frag} {mg : Str → Option Value} {base : Heap}
/-! ### is_whole : 0 value, 1 least, 2 most -/
abbrev N_is_whole : List Str := ["value", "least", "most"]
theorem sc_is_whole : FnScope N_is_whole ["value", "least", "most"] (defScope (topS 13)) := ⟨rfl, rfl, rfl, by decide +kernel, rfl, by decide +kernel, by decide +kernel⟩
def S_is_whole : ES := sRet (eAnd (e1 (dIsi' "int") (eVar 0)) (eAnd (eNot (e1 (dIsi' "bool") (eVar 0))) (eCh dLe dLe (eVar 1) (eVar 0) (eVar 2))))
def F_is_whole := runD 3 S_is_whole
theorem ok_is_whole (T : Txt P w K mg) : FnOk P w K mg base (L2.CX P w) 1 T.f_is_whole T.d_is_whole ["value", "least", "most"] (spF w K mg 3 F_is_whole) := by
  refine fn_ok (N := N_is_whole) (S := S_is_whole) T.F_is_whole sc_is_whole fun cdv A outer s H E hr => ?_
  have tk : Takes (cxOf (L2.CX P w) P w K mg base N_is_whole "is_whole" (defScope (topS 13)) T.f_is_whole cdv A outer s H E) (WD E) := tk_def
  have po : PassesOwn (model P w) (A.deeper (envOfC "is_whole" (defScope (topS 13)) s.heap.objs.size T.f_is_whole cdv)) (envOfC "is_whole" (defScope (topS 13)) s.heap.objs.size T.f_is_whole cdv) (cxOf (L2.CX P w) P w K mg base N_is_whole "is_whole" (defScope (topS 13)) T.f_is_whole cdv A outer s H E).xe := po_def
  exact ess_one (es_ret (ev_and (ev_isi (T := "int") rfl T.z_isinstance T.z_int (by decide +kernel) (by decide +kernel) (ev_var 0)) (ev_and (ev_not (ev_isi (T := "bool") rfl T.z_isinstance T.z_bool (by decide +kernel) (by decide +kernel) (ev_var 0))) (ev_one (ev_lele (ev_var 1) (ev_var 0) (ev_var 2))))))
/-! ### board_fault : 0 value, 1 number, 2 row, 3 wrong, 4 column, 5 sign -/
abbrev N_board_fault : List Str := ["value", "number", "row", "wrong", "column", "sign"]
theorem sc_board_fault : FnScope N_board_fault ["value"] (defScope (topS 14)) := ⟨rfl, rfl, rfl, by decide +kernel, rfl, by decide +kernel, by decide +kernel⟩
def B_board_fault_1 : ES := sCons (sSet 3 (mF (eComp (iEnumD (eVar 2)) (aTup (aCons (aName 4) (aCons (aName 5) (aNil)))) (tV (e2 dNotInD (eVar 5) (eD (c_SIGNS)))) (eVar 4) [4, 5]))) (sIf (tV (e2 dGt (eA dLenD (eCons (eVar 3) (eNil))) (eInt 0))) (sRet (eTup (eCons (eStr "sign") (eCons (eVar 1) (eCons (e2 dIxD (eVar 3) (eInt 0)) (eNil)))))) (sNil))
def S_board_fault : ES := sCons (sIf (tOrB (tNotB (tV (e1 (dIsi' "tuple") (eVar 0)))) (tNotB (tV (eCh dLe dLe (eInt 1) (eA dLenD (eCons (eVar 0) (eNil))) (eD (c_MOST_SIDE)))))) (sRet (eD (c_FORM))) (sNil)) (sCons (sIf (tNotB (tV (eA dAll (eCons (eComp (iSeq (eVar 0)) (aName 2) (tTrue) (e1 (dIsi' "str") (eVar 2)) [2]) (eNil))))) (sRet (eD (c_FORM))) (sNil)) (sCons (sIf (tOrB (tNotB (tV (eCh dLe dLe (eInt 1) (eA dLenD (eCons (e2 dIxD (eVar 0) (eInt 0)) (eNil))) (eD (c_MOST_SIDE))))) (tNotB (tV (eA dAll (eCons (eComp (iSeq (eVar 0)) (aName 2) (tTrue) (e2 dEq (eA dLenD (eCons (eVar 2) (eNil))) (eA dLenD (eCons (e2 dIxD (eVar 0) (eInt 0)) (eNil)))) [2]) (eNil)))))) (sRet (eD (c_FORM))) (sNil)) (sCons (sFor (iEnumD (eVar 0)) (aTup (aCons (aName 1) (aCons (aName 2) (aNil)))) (B_board_fault_1) [0, 1, 2, 3, 4, 5]) (sRet (eNone)))))
def F_board_fault := runD 6 S_board_fault
theorem ok_board_fault (T : Txt P w K mg) : FnOk P w K mg base (L2.CX P w) 1 T.f_board_fault T.d_board_fault ["value"] (spF w K mg 1 F_board_fault) := by
  refine fn_ok (N := N_board_fault) (S := S_board_fault) T.F_board_fault sc_board_fault fun cdv A outer s H E hr => ?_
  have tk : Takes (cxOf (L2.CX P w) P w K mg base N_board_fault "board_fault" (defScope (topS 14)) T.f_board_fault cdv A outer s H E) (WD E) := tk_def
  have po : PassesOwn (model P w) (A.deeper (envOfC "board_fault" (defScope (topS 14)) s.heap.objs.size T.f_board_fault cdv)) (envOfC "board_fault" (defScope (topS 14)) s.heap.objs.size T.f_board_fault cdv) (cxOf (L2.CX P w) P w K mg base N_board_fault "board_fault" (defScope (topS 14)) T.f_board_fault cdv A outer s H E).xe := po_def
  exact ess_cons (es_if (Ew.et (ew_or (et_not (et_val (ev_isi (T := "tuple") rfl T.z_isinstance T.z_tuple (by decide +kernel) (by decide +kernel) (ev_var 0)))) (ew_or1 (et_not (et_lele (ev_int) (ev_lenD T.z_len (ea_cons (ev_var 0) (ea_nil))) (ev_glob T.c_MOST_SIDE))))))
      (ess_one (es_ret (ev_glob T.c_FORM)))
      (ess_nil))
      (ess_cons (es_if (et_not (et_val (ev_all rfl T.z_all (ea_cons ((eo_comp (own := [("row", 2)]) rfl sc_board_fault.nd (ei_seq (ev_var 0)) (blkOk_by (N := N_board_fault) (sc := defScope (topS 14)) (by decide +kernel)) (fun _ _ _ _ _ => eg_name 2 sc_board_fault.nd) (by decide) (fun _ _ _ _ _ => ets_nil) (fun _ _ _ _ _ => ev_isi (T := "str") rfl T.z_isinstance T.z_str (by decide +kernel) (by decide +kernel) (ev_var 2))).ev) (ea_nil)))))
      (ess_one (es_ret (ev_glob T.c_FORM)))
      (ess_nil))
      (ess_cons (es_if (Ew.et (ew_or (et_not (et_lele (ev_int) (ev_lenD T.z_len (ea_cons (ev_ixD (hu_room hr) (ev_var 0) (ev_int)) (ea_nil))) (ev_glob T.c_MOST_SIDE))) (ew_or1 (et_not (et_val (ev_all rfl T.z_all (ea_cons ((eo_comp (own := [("row", 2)]) rfl sc_board_fault.nd (ei_seq (ev_var 0)) (blkOk_by (N := N_board_fault) (sc := defScope (topS 14)) (by decide +kernel)) (fun _ _ _ _ _ => eg_name 2 sc_board_fault.nd) (by decide) (fun _ _ _ _ _ => ets_nil) (fun _ _ _ _ _ => ev_eq (hu_room hr) (ev_lenD T.z_len (ea_cons (ev_var 2) (ea_nil))) (ev_lenD T.z_len (ea_cons (ev_ixD (hu_room hr) (ev_var 0) (ev_int)) (ea_nil))))).ev) (ea_nil))))))))
      (ess_one (es_ret (ev_glob T.c_FORM)))
      (ess_nil))
      (ess_cons (es_for [0, 1, 2, 3, 4, 5] po rfl (ei_enum T.z_enumerate (ev_var 0)) (eg_tup rfl (egs_cons (eg_name 1 sc_board_fault.nd) (egs_cons (eg_name 2 sc_board_fault.nd) (egs_nil))))
      (ess_cons (es_setF (es_setLc (own := [("column", 4), ("sign", 5)]) rfl sc_board_fault.nd rfl rfl (sw_true rfl rfl rfl (by decide +kernel)) (ei_enum T.z_enumerate (ev_var 2)) (blkOk_by (N := N_board_fault) (sc := defScope (topS 14)) (by decide +kernel)) (fun _ _ _ _ _ => eg_tup rfl (egs_cons (eg_name 4 sc_board_fault.nd) (egs_cons (eg_name 5 sc_board_fault.nd) (egs_nil)))) (by decide) (fun _ _ _ _ _ => ets_one (et_notInD (hu_room hr) (ev_var 5) (ev_glob T.c_SIGNS))) (fun _ _ _ _ _ => ev_var 4)))
      (ess_one (es_if (et_gt (ev_lenD T.z_len (ea_cons (ev_var 3) (ea_nil))) (ev_int))
      (ess_one (es_ret (ev_tup (ea_cons (ev_str) (ea_cons (ev_var 1) (ea_cons (ev_ixD (hu_room hr) (ev_var 3) (ev_int)) (ea_nil)))))))
      (ess_nil)))))
      (ess_one (es_ret (ev_none))))))
/-! ### check_board : 0 board -/
abbrev N_check_board : List Str := ["board"]
theorem sc_check_board : FnScope N_check_board ["board"] (defScope (topS 15)) := ⟨rfl, rfl, rfl, by decide +kernel, rfl, by decide +kernel, by decide +kernel⟩
def S_check_board : ES := sIf (tV (e1 dNotN (eCall F_board_fault (eCons (eVar 0) (eNil))))) (sRaise "BadBoard") (sNil)
def F_check_board := runD 1 S_check_board
theorem ok_check_board (T : Txt P w K mg) : FnOk P w K mg base (L2.CX P w) 2 T.f_check_board T.d_check_board ["board"] (spF w K mg 1 F_check_board) := by
  refine fn_ok (N := N_check_board) (S := S_check_board) T.F_check_board sc_check_board fun cdv A outer s H E hr => ?_
  have tk : Takes (cxOf (L2.CX P w) P w K mg base N_check_board "check_board" (defScope (topS 15)) T.f_check_board cdv A outer s H E) (WD E) := tk_def
  have po : PassesOwn (model P w) (A.deeper (envOfC "check_board" (defScope (topS 15)) s.heap.objs.size T.f_check_board cdv)) (envOfC "check_board" (defScope (topS 15)) s.heap.objs.size T.f_check_board cdv) (cxOf (L2.CX P w) P w K mg base N_check_board "check_board" (defScope (topS 15)) T.f_check_board cdv A outer s H E).xe := po_def
  exact ess_one (es_if (et_notN (ev_call (ok_board_fault T) rfl tk (hr.mono (by decide)) T.m_board_fault T.F_board_fault.kp T.b_board_fault (ea_cons (ev_var 0) (ea_nil))))
      (ess_one (es_raise rfl tk ⟨T.g_BadBoard, T.x_BadBoard, T.k_BadBoard, T.b_BadBoard, T.t_BadBoard⟩))
      (ess_nil))
/-! ### places_with : 0 board, 1 signs, 2 found, 3 number, 4 row, 5 column, 6 sign -/
abbrev N_places_with : List Str := ["board", "signs", "found", "number", "row", "column", "sign"]
theorem sc_places_with : FnScope N_places_with ["board", "signs"] (defScope (topS 16)) := ⟨rfl, rfl, rfl, by decide +kernel, rfl, by decide +kernel, by decide +kernel⟩
def B_places_with_1 : ES := sExt 2 (eComp (iEnumD (eVar 4)) (aTup (aCons (aName 5) (aCons (aName 6) (aNil)))) (tV (e2 dInD (eVar 6) (eVar 1))) (eTup (eCons (eVar 3) (eCons (eVar 5) (eNil)))) [5, 6])
def S_places_with : ES := sCons (sSet 2 (mO (eLst (eNil)))) (sCons (sFor (iEnumD (eVar 0)) (aTup (aCons (aName 3) (aCons (aName 4) (aNil)))) (B_places_with_1) [0, 3, 4, 5, 6]) (sFrz 2 (sRet (eVar 2))))
def F_places_with := runD 7 S_places_with
theorem ok_places_with (T : Txt P w K mg) : FnOk P w K mg base (L2.CX P w) 1 T.f_places_with T.d_places_with ["board", "signs"] (spF w K mg 2 F_places_with) := by
  refine fn_ok (N := N_places_with) (S := S_places_with) T.F_places_with sc_places_with fun cdv A outer s H E hr => ?_
  have tk : Takes (cxOf (L2.CX P w) P w K mg base N_places_with "places_with" (defScope (topS 16)) T.f_places_with cdv A outer s H E) (WD E) := tk_def
  have po : PassesOwn (model P w) (A.deeper (envOfC "places_with" (defScope (topS 16)) s.heap.objs.size T.f_places_with cdv)) (envOfC "places_with" (defScope (topS 16)) s.heap.objs.size T.f_places_with cdv) (cxOf (L2.CX P w) P w K mg base N_places_with "places_with" (defScope (topS 16)) T.f_places_with cdv A outer s H E).xe := po_def
  exact ess_cons (es_set 2 (Eo.em (eo_lst (ea_nil))) sc_places_with.nd)
      (ess_cons (es_for [0, 3, 4, 5, 6] po rfl (ei_enum T.z_enumerate (ev_var 0)) (eg_tup rfl (egs_cons (eg_name 3 sc_places_with.nd) (egs_cons (eg_name 4 sc_places_with.nd) (egs_nil))))
      (ess_one (es_ext 2 ((eo_comp (own := [("column", 5), ("sign", 6)]) rfl sc_places_with.nd (ei_enum T.z_enumerate (ev_var 4)) (blkOk_by (N := N_places_with) (sc := defScope (topS 16)) (by decide +kernel)) (fun _ _ _ _ _ => eg_tup rfl (egs_cons (eg_name 5 sc_places_with.nd) (egs_cons (eg_name 6 sc_places_with.nd) (egs_nil)))) (by decide) (fun _ _ _ _ _ => ets_one (et_inD (hu_room hr) (ev_var 6) (ev_var 1))) (fun _ _ _ _ _ => ev_tup (ea_cons (ev_var 3) (ea_cons (ev_var 5) (ea_nil))))).ev))))
      (ess_one (es_frz 2 (es_ret (ev_var 2)))))
/-! ### is_place : 0 board, 1 place -/
abbrev N_is_place : List Str := ["board", "place"]
theorem sc_is_place : FnScope N_is_place ["board", "place"] (defScope (topS 18)) := ⟨rfl, rfl, rfl, by decide +kernel, rfl, by decide +kernel, by decide +kernel⟩
def S_is_place : ES := sRet (eAnd (eCh dLe dLtI (eInt 0) (e2 dIxD (eVar 1) (eInt 0)) (eA dLenD (eCons (eVar 0) (eNil)))) (eCh dLe dLtI (eInt 0) (e2 dIxD (eVar 1) (eInt 1)) (eA dLenD (eCons (e2 dIxD (eVar 0) (eInt 0)) (eNil)))))
def F_is_place := runD 2 S_is_place
theorem ok_is_place (T : Txt P w K mg) : FnOk P w K mg base (L2.CX P w) 1 T.f_is_place T.d_is_place ["board", "place"] (spF w K mg 2 F_is_place) := by
  refine fn_ok (N := N_is_place) (S := S_is_place) T.F_is_place sc_is_place fun cdv A outer s H E hr => ?_
  have tk : Takes (cxOf (L2.CX P w) P w K mg base N_is_place "is_place" (defScope (topS 18)) T.f_is_place cdv A outer s H E) (WD E) := tk_def
  have po : PassesOwn (model P w) (A.deeper (envOfC "is_place" (defScope (topS 18)) s.heap.objs.size T.f_is_place cdv)) (envOfC "is_place" (defScope (topS 18)) s.heap.objs.size T.f_is_place cdv) (cxOf (L2.CX P w) P w K mg base N_is_place "is_place" (defScope (topS 18)) T.f_is_place cdv A outer s H E).xe := po_def
  exact ess_one (es_ret (ev_and (ev_lelt (ev_int) (ev_ixD (hu_room hr) (ev_var 1) (ev_int)) (ev_lenD T.z_len (ea_cons (ev_var 0) (ea_nil)))) (ev_one (ev_lelt (ev_int) (ev_ixD (hu_room hr) (ev_var 1) (ev_int)) (ev_lenD T.z_len (ea_cons (ev_ixD (hu_room hr) (ev_var 0) (ev_int)) (ea_nil)))))))
/-! ### group_at : 0 board, 1 place, 2 found, 3 waits, 4 there, 5 row, 6 column -/
abbrev N_group_at : List Str := ["board", "place", "found", "waits", "there", "row", "column"]
theorem sc_group_at : FnScope N_group_at ["board", "place"] (defScope (topS 17)) := ⟨rfl, rfl, rfl, by decide +kernel, rfl, by decide +kernel, by decide +kernel⟩
def B_group_at_1 : ES := sIf (tBor 2 (tAndB (tV (e2 dNotInD (eVar 4) (eVar 2))) (tAndB (tV (eCall F_is_place (eCons (eVar 0) (eCons (eVar 4) (eNil))))) (tV (e2 dInD (e2 dIxD (e2 dIxD (eVar 0) (e2 dIxD (eVar 4) (eInt 0))) (e2 dIxD (eVar 4) (eInt 1))) (eD (c_LINKED))))))) (sCons (sSetD 2 (eBool true) (eVar 4)) (sApp 3 (eVar 4))) (sNil)
def B_group_at_2 : ES := sCons (sPopA 3 (aTup (aCons (aName 5) (aCons (aName 6) (aNil))))) (sFor (iSeq (eTup (eCons (eTup (eCons (e2 dAdd (eVar 5) (eInt 1)) (eCons (eVar 6) (eNil)))) (eCons (eTup (eCons (e2 dSub (eVar 5) (eInt 1)) (eCons (eVar 6) (eNil)))) (eCons (eTup (eCons (eVar 5) (eCons (e2 dAdd (eVar 6) (eInt 1)) (eNil)))) (eCons (eTup (eCons (eVar 5) (eCons (e2 dSub (eVar 6) (eInt 1)) (eNil)))) (eNil))))))) (aName 4) (B_group_at_1) [1, 4, 5, 6])
def T_group_at_2 : ET := tBor 3 (tV (e2 dGt (eA dLenD (eCons (eVar 3) (eNil))) (eInt 0)))
def S_group_at : ES := sCons (sSet 2 (mO (eDisp [(eVar 1, eBool true)]))) (sCons (sSet 3 (mO (eLst (eCons (eVar 1) (eNil))))) (sCons (sWhile (T_group_at_2) (B_group_at_2) [1, 4, 5, 6]) (sFrz 2 (sRet (eA dTuple (eCons (eA dSortedD (eCons (eVar 2) (eNil))) (eNil)))))))
def F_group_at := runD 7 S_group_at
theorem ok_group_at (T : Txt P w K mg) : FnOk P w K mg base (L2.CX P w) 2 T.f_group_at T.d_group_at ["board", "place"] (spF w K mg 2 F_group_at) := by
  refine fn_ok (N := N_group_at) (S := S_group_at) T.F_group_at sc_group_at fun cdv A outer s H E hr => ?_
  have tk : Takes (cxOf (L2.CX P w) P w K mg base N_group_at "group_at" (defScope (topS 17)) T.f_group_at cdv A outer s H E) (WD E) := tk_def
  have po : PassesOwn (model P w) (A.deeper (envOfC "group_at" (defScope (topS 17)) s.heap.objs.size T.f_group_at cdv)) (envOfC "group_at" (defScope (topS 17)) s.heap.objs.size T.f_group_at cdv) (cxOf (L2.CX P w) P w K mg base N_group_at "group_at" (defScope (topS 17)) T.f_group_at cdv A outer s H E).xe := po_def
  exact ess_cons (es_set 2 (Eo.em (eo_disp (hu_room hr) (.cons (ev_var 1) (ev_bool) .nil))) sc_group_at.nd)
      (ess_cons (es_set 3 (Eo.em (eo_lst (ea_cons (ev_var 1) (ea_nil)))) sc_group_at.nd)
      (ess_cons (es_while [1, 4, 5, 6] po (et_bor 3 (et_gt (ev_lenD T.z_len (ea_cons (ev_var 3) (ea_nil))) (ev_int)))
      (ess_cons (es_popA 3 (eg_tup rfl (egs_cons (eg_name 5 sc_group_at.nd) (egs_cons (eg_name 6 sc_group_at.nd) (egs_nil)))))
      (ess_one (es_for [1, 4, 5, 6] po rfl (ei_seq (ev_tup (ea_cons (ev_tup (ea_cons (ev_add (ev_var 5) (ev_int)) (ea_cons (ev_var 6) (ea_nil)))) (ea_cons (ev_tup (ea_cons (ev_sub (ev_var 5) (ev_int)) (ea_cons (ev_var 6) (ea_nil)))) (ea_cons (ev_tup (ea_cons (ev_var 5) (ea_cons (ev_add (ev_var 6) (ev_int)) (ea_nil)))) (ea_cons (ev_tup (ea_cons (ev_var 5) (ea_cons (ev_sub (ev_var 6) (ev_int)) (ea_nil)))) (ea_nil))))))) (eg_name 4 sc_group_at.nd)
      (ess_one (es_if (et_bor 2 (Ew.et (ew_and (et_notInD (hu_room hr) (ev_var 4) (ev_var 2)) (ew_and (et_val (ev_call (ok_is_place T) rfl tk (hr.mono (by decide)) T.m_is_place T.F_is_place.kp T.b_is_place (ea_cons (ev_var 0) (ea_cons (ev_var 4) (ea_nil))))) (ew_and1 (et_inD (hu_room hr) (ev_ixD (hu_room hr) (ev_ixD (hu_room hr) (ev_var 0) (ev_ixD (hu_room hr) (ev_var 4) (ev_int))) (ev_ixD (hu_room hr) (ev_var 4) (ev_int))) (ev_glob T.c_LINKED)))))))
      (ess_cons (es_setD (hu_room hr) 2 (ev_bool) (ev_var 4))
      (ess_one (es_app 3 (ev_var 4))))
      (ess_nil)))))))
      (ess_one (es_frz 2 (es_ret (ev_tuple T.z_tuple (ea_cons ((eo_sortedD rfl (hu_room hr) T.z_sorted (ea_cons (ev_var 2) (ea_nil))).ev) (ea_nil))))))))
/-! ### turned_at : 0 board, 1 places, 2 rows, 3 row, 4 column -/
abbrev N_turned_at : List Str := ["board", "places", "rows", "row", "column"]
theorem sc_turned_at : FnScope N_turned_at ["board", "places"] (defScope (topS 19)) := ⟨rfl, rfl, rfl, by decide +kernel, rfl, by decide +kernel, by decide +kernel⟩
def B_turned_at_1 : ES := sSetN 2 (eVar 3) (eVar 4) (e2 dIxD (eD (c_OTHERS)) (eNix 2 (eVar 3) (eVar 4)))
def S_turned_at : ES := sCons (sSet 2 (mN (eCompN (iSeq (eVar 0)) (aName 3) (tTrue) (eA dListD (eCons (eVar 3) (eNil))) [3]))) (sCons (sFor (iSeq (eVar 1)) (aTup (aCons (aName 3) (aCons (aName 4) (aNil)))) (B_turned_at_1) [0, 1, 3, 4]) (sFrzN 2 (sRet (eA dTuple (eCons (eComp (iSeq (eVar 2)) (aName 3) (tTrue) (eM "str" dJoin (eStr "") (eCons (eVar 3) (eNil))) [3]) (eNil))))))
def F_turned_at := runD 5 S_turned_at
theorem ok_turned_at (T : Txt P w K mg) : FnOk P w K mg base (L2.CX P w) 1 T.f_turned_at T.d_turned_at ["board", "places"] (spF w K mg 2 F_turned_at) := by
  refine fn_ok (N := N_turned_at) (S := S_turned_at) T.F_turned_at sc_turned_at fun cdv A outer s H E hr => ?_
  have tk : Takes (cxOf (L2.CX P w) P w K mg base N_turned_at "turned_at" (defScope (topS 19)) T.f_turned_at cdv A outer s H E) (WD E) := tk_def
  have po : PassesOwn (model P w) (A.deeper (envOfC "turned_at" (defScope (topS 19)) s.heap.objs.size T.f_turned_at cdv)) (envOfC "turned_at" (defScope (topS 19)) s.heap.objs.size T.f_turned_at cdv) (cxOf (L2.CX P w) P w K mg base N_turned_at "turned_at" (defScope (topS 19)) T.f_turned_at cdv A outer s H E).xe := po_def
  exact ess_cons (es_setLcN (own := [("row", 3)]) rfl sc_turned_at.nd rfl rfl (sw_true rfl rfl rfl (by decide +kernel)) (ei_seq (ev_var 0)) (blkOk_by (N := N_turned_at) (sc := defScope (topS 19)) (by decide +kernel)) (fun _ _ _ _ _ => eg_name 3 sc_turned_at.nd) (by decide) (fun _ _ _ _ _ => ets_nil) (fun _ _ _ _ _ => eo_listD rfl T.z_list (ea_cons (ev_var 3) (ea_nil))))
      (ess_cons (es_for [0, 1, 3, 4] po rfl (ei_seq (ev_var 1)) (eg_tup rfl (egs_cons (eg_name 3 sc_turned_at.nd) (egs_cons (eg_name 4 sc_turned_at.nd) (egs_nil))))
      (ess_one (es_setN 2 (ev_var 3) (ev_var 4) (ev_ixD (hu_room hr) (ev_glob T.c_OTHERS) (ev_nix 2 (ev_var 3) (ev_var 4))))))
      (ess_one (es_frzN 2 (es_ret (ev_tuple T.z_tuple (ea_cons ((eo_comp (own := [("row", 3)]) rfl sc_turned_at.nd (ei_seq (ev_var 2)) (blkOk_by (N := N_turned_at) (sc := defScope (topS 19)) (by decide +kernel)) (fun _ _ _ _ _ => eg_name 3 sc_turned_at.nd) (by decide) (fun _ _ _ _ _ => ets_nil) (fun _ _ _ _ _ => ev_join (ev_str) (ea_cons (ev_var 3) (ea_nil)))).ev) (ea_nil)))))))
/-! ### check_column : 0 board, 1 column -/
abbrev N_check_column : List Str := ["board", "column"]
theorem sc_check_column : FnScope N_check_column ["board", "column"] (defScope (topS 26)) := ⟨rfl, rfl, rfl, by decide +kernel, rfl, by decide +kernel, by decide +kernel⟩
def S_check_column : ES := sIf (tNotB (tV (eCall F_is_whole (eCons (eVar 1) (eCons (eInt 0) (eCons (e2 dSub (eA dLenD (eCons (e2 dIxD (eVar 0) (eInt 0)) (eNil))) (eInt 1)) (eNil))))))) (sRaise "BadColumn") (sNil)
def F_check_column := runD 2 S_check_column
theorem ok_check_column (T : Txt P w K mg) : FnOk P w K mg base (L2.CX P w) 2 T.f_check_column T.d_check_column ["board", "column"] (spF w K mg 2 F_check_column) := by
  refine fn_ok (N := N_check_column) (S := S_check_column) T.F_check_column sc_check_column fun cdv A outer s H E hr => ?_
  have tk : Takes (cxOf (L2.CX P w) P w K mg base N_check_column "check_column" (defScope (topS 26)) T.f_check_column cdv A outer s H E) (WD E) := tk_def
  have po : PassesOwn (model P w) (A.deeper (envOfC "check_column" (defScope (topS 26)) s.heap.objs.size T.f_check_column cdv)) (envOfC "check_column" (defScope (topS 26)) s.heap.objs.size T.f_check_column cdv) (cxOf (L2.CX P w) P w K mg base N_check_column "check_column" (defScope (topS 26)) T.f_check_column cdv A outer s H E).xe := po_def
  exact ess_one (es_if (et_not (et_val (ev_call (ok_is_whole T) rfl tk (hr.mono (by decide)) T.m_is_whole T.F_is_whole.kp T.b_is_whole (ea_cons (ev_var 1) (ea_cons (ev_int) (ea_cons (ev_sub (ev_lenD T.z_len (ea_cons (ev_ixD (hu_room hr) (ev_var 0) (ev_int)) (ea_nil))) (ev_int)) (ea_nil)))))))
      (ess_one (es_raise rfl tk ⟨T.g_BadColumn, T.x_BadColumn, T.k_BadColumn, T.b_BadColumn, T.t_BadColumn⟩))
      (ess_nil))
/-! ### way_at : 0 sign, 1 way -/
abbrev N_way_at : List Str := ["sign", "way"]
theorem sc_way_at : FnScope N_way_at ["sign", "way"] (defScope (topS 27)) := ⟨rfl, rfl, rfl, by decide +kernel, rfl, by decide +kernel, by decide +kernel⟩
def S_way_at : ES := sRet (eIte (tV (e2 dEq (eVar 0) (eD (c_CROSSING)))) (eVar 1) (e2 dIxD (eD (c_WAYS)) (eVar 0)))
def F_way_at := runD 2 S_way_at
theorem ok_way_at (T : Txt P w K mg) : FnOk P w K mg base (L2.CX P w) 1 T.f_way_at T.d_way_at ["sign", "way"] (spF w K mg 2 F_way_at) := by
  refine fn_ok (N := N_way_at) (S := S_way_at) T.F_way_at sc_way_at fun cdv A outer s H E hr => ?_
  have tk : Takes (cxOf (L2.CX P w) P w K mg base N_way_at "way_at" (defScope (topS 27)) T.f_way_at cdv A outer s H E) (WD E) := tk_def
  have po : PassesOwn (model P w) (A.deeper (envOfC "way_at" (defScope (topS 27)) s.heap.objs.size T.f_way_at cdv)) (envOfC "way_at" (defScope (topS 27)) s.heap.objs.size T.f_way_at cdv) (cxOf (L2.CX P w) P w K mg base N_way_at "way_at" (defScope (topS 27)) T.f_way_at cdv A outer s H E).xe := po_def
  exact ess_one (es_ret (ev_ite (et_eq (hu_room hr) (ev_var 0) (ev_glob T.c_CROSSING)) (ev_var 1) (ev_ixD (hu_room hr) (ev_glob T.c_WAYS) (ev_var 0))))
/-! ### beyond : 0 board, 1 row, 2 column -/
abbrev N_beyond : List Str := ["board", "row", "column"]
theorem sc_beyond : FnScope N_beyond ["board", "row", "column"] (defScope (topS 28)) := ⟨rfl, rfl, rfl, by decide +kernel, rfl, by decide +kernel, by decide +kernel⟩
def S_beyond : ES := sCons (sIf (tV (e2 dLt (eVar 2) (eInt 0))) (sRet (eTup (eCons (eStr "left") (eCons (eVar 1) (eNil))))) (sNil)) (sRet (eIte (tV (e2 dEq (eVar 2) (eA dLenD (eCons (e2 dIxD (eVar 0) (eInt 0)) (eNil))))) (eTup (eCons (eStr "right") (eCons (eVar 1) (eNil)))) (eNone)))
def F_beyond := runD 3 S_beyond
theorem ok_beyond (T : Txt P w K mg) : FnOk P w K mg base (L2.CX P w) 1 T.f_beyond T.d_beyond ["board", "row", "column"] (spF w K mg 3 F_beyond) := by
  refine fn_ok (N := N_beyond) (S := S_beyond) T.F_beyond sc_beyond fun cdv A outer s H E hr => ?_
  have tk : Takes (cxOf (L2.CX P w) P w K mg base N_beyond "beyond" (defScope (topS 28)) T.f_beyond cdv A outer s H E) (WD E) := tk_def
  have po : PassesOwn (model P w) (A.deeper (envOfC "beyond" (defScope (topS 28)) s.heap.objs.size T.f_beyond cdv)) (envOfC "beyond" (defScope (topS 28)) s.heap.objs.size T.f_beyond cdv) (cxOf (L2.CX P w) P w K mg base N_beyond "beyond" (defScope (topS 28)) T.f_beyond cdv A outer s H E).xe := po_def
  exact ess_cons (es_if (et_lt (hu_room hr) (ev_var 2) (ev_int))
      (ess_one (es_ret (ev_tup (ea_cons (ev_str) (ea_cons (ev_var 1) (ea_nil))))))
      (ess_nil))
      (ess_one (es_ret (ev_ite (et_eq (hu_room hr) (ev_var 2) (ev_lenD T.z_len (ea_cons (ev_ixD (hu_room hr) (ev_var 0) (ev_int)) (ea_nil)))) (ev_tup (ea_cons (ev_str) (ea_cons (ev_var 1) (ea_nil)))) (ev_none))))
/-! ### behind : 0 board, 1 row, 2 column, 3 sign -/
abbrev N_behind : List Str := ["board", "row", "column", "sign"]
theorem sc_behind : FnScope N_behind ["board", "row", "column"] (defScope (topS 29)) := ⟨rfl, rfl, rfl, by decide +kernel, rfl, by decide +kernel, by decide +kernel⟩
def S_behind : ES := sCons (sSet 3 (mF (e2 dIxD (e2 dIxD (eVar 0) (eVar 1)) (eVar 2)))) (sCons (sIf (tV (e2 dNotInD (eVar 3) (eD (c_SWITCHES)))) (sRet (eVar 0)) (sNil)) (sRet (eCall F_turned_at (eCons (eVar 0) (eCons (eIte (tV (e2 dInD (eVar 3) (eD (c_LINKED)))) (eCall F_group_at (eCons (eVar 0) (eCons (eTup (eCons (eVar 1) (eCons (eVar 2) (eNil)))) (eNil)))) (eTup (eCons (eTup (eCons (eVar 1) (eCons (eVar 2) (eNil)))) (eNil)))) (eNil))))))
def F_behind := runD 4 S_behind
theorem ok_behind (T : Txt P w K mg) : FnOk P w K mg base (L2.CX P w) 3 T.f_behind T.d_behind ["board", "row", "column"] (spF w K mg 3 F_behind) := by
  refine fn_ok (N := N_behind) (S := S_behind) T.F_behind sc_behind fun cdv A outer s H E hr => ?_
  have tk : Takes (cxOf (L2.CX P w) P w K mg base N_behind "behind" (defScope (topS 29)) T.f_behind cdv A outer s H E) (WD E) := tk_def
  have po : PassesOwn (model P w) (A.deeper (envOfC "behind" (defScope (topS 29)) s.heap.objs.size T.f_behind cdv)) (envOfC "behind" (defScope (topS 29)) s.heap.objs.size T.f_behind cdv) (cxOf (L2.CX P w) P w K mg base N_behind "behind" (defScope (topS 29)) T.f_behind cdv A outer s H E).xe := po_def
  exact ess_cons (es_set 3 (Ev.em (ev_ixD (hu_room hr) (ev_ixD (hu_room hr) (ev_var 0) (ev_var 1)) (ev_var 2))) sc_behind.nd)
      (ess_cons (es_if (et_notInD (hu_room hr) (ev_var 3) (ev_glob T.c_SWITCHES))
      (ess_one (es_ret (ev_var 0)))
      (ess_nil))
      (ess_one (es_ret (ev_call (ok_turned_at T) rfl tk (hr.mono (by decide)) T.m_turned_at T.F_turned_at.kp T.b_turned_at (ea_cons (ev_var 0) (ea_cons (ev_ite (et_inD (hu_room hr) (ev_var 3) (ev_glob T.c_LINKED)) (ev_call (ok_group_at T) rfl tk (hr.mono (by decide)) T.m_group_at T.F_group_at.kp T.b_group_at (ea_cons (ev_var 0) (ea_cons (ev_tup (ea_cons (ev_var 1) (ea_cons (ev_var 2) (ea_nil)))) (ea_nil)))) (ev_tup (ea_cons (ev_tup (ea_cons (ev_var 1) (ea_cons (ev_var 2) (ea_nil)))) (ea_nil)))) (ea_nil)))))))
/-! ### check_columns : 0 board, 1 columns, 2 one -/
abbrev N_check_columns : List Str := ["board", "columns", "one"]
theorem sc_check_columns : FnScope N_check_columns ["board", "columns"] (defScope (topS 30)) := ⟨rfl, rfl, rfl, by decide +kernel, rfl, by decide +kernel, by decide +kernel⟩
def S_check_columns : ES := sCons (sIf (tOrB (tNotB (tV (e1 (dIsi' "tuple") (eVar 1)))) (tV (e2 dGt (eA dLenD (eCons (eVar 1) (eNil))) (eD (c_MOST_MARBLES))))) (sRaise "BadColumns") (sNil)) (sIf (tNotB (tV (eA dAll (eCons (eComp (iSeq (eVar 1)) (aName 2) (tTrue) (eCall F_is_whole (eCons (eVar 2) (eCons (eInt 0) (eCons (e2 dSub (eA dLenD (eCons (e2 dIxD (eVar 0) (eInt 0)) (eNil))) (eInt 1)) (eNil))))) [2]) (eNil))))) (sRaise "BadColumns") (sNil))
def F_check_columns := runD 3 S_check_columns
theorem ok_check_columns (T : Txt P w K mg) : FnOk P w K mg base (L2.CX P w) 2 T.f_check_columns T.d_check_columns ["board", "columns"] (spF w K mg 2 F_check_columns) := by
  refine fn_ok (N := N_check_columns) (S := S_check_columns) T.F_check_columns sc_check_columns fun cdv A outer s H E hr => ?_
  have tk : Takes (cxOf (L2.CX P w) P w K mg base N_check_columns "check_columns" (defScope (topS 30)) T.f_check_columns cdv A outer s H E) (WD E) := tk_def
  have po : PassesOwn (model P w) (A.deeper (envOfC "check_columns" (defScope (topS 30)) s.heap.objs.size T.f_check_columns cdv)) (envOfC "check_columns" (defScope (topS 30)) s.heap.objs.size T.f_check_columns cdv) (cxOf (L2.CX P w) P w K mg base N_check_columns "check_columns" (defScope (topS 30)) T.f_check_columns cdv A outer s H E).xe := po_def
  exact ess_cons (es_if (Ew.et (ew_or (et_not (et_val (ev_isi (T := "tuple") rfl T.z_isinstance T.z_tuple (by decide +kernel) (by decide +kernel) (ev_var 1)))) (ew_or1 (et_gt (ev_lenD T.z_len (ea_cons (ev_var 1) (ea_nil))) (ev_glob T.c_MOST_MARBLES)))))
      (ess_one (es_raise rfl tk ⟨T.g_BadColumns, T.x_BadColumns, T.k_BadColumns, T.b_BadColumns, T.t_BadColumns⟩))
      (ess_nil))
      (ess_one (es_if (et_not (et_val (ev_all rfl T.z_all (ea_cons ((eo_comp (own := [("one", 2)]) rfl sc_check_columns.nd (ei_seq (ev_var 1)) (blkOk_by (N := N_check_columns) (sc := defScope (topS 30)) (by decide +kernel)) (fun _ _ _ _ _ => eg_name 2 sc_check_columns.nd) (by decide) (fun _ _ _ _ _ => ets_nil) (fun _ _ _ _ _ => ev_call (ok_is_whole T) rfl takes0 (hr.mono (by decide)) T.m_is_whole T.F_is_whole.kp T.b_is_whole (ea_cons (ev_var 2) (ea_cons (ev_int) (ea_cons (ev_sub (ev_lenD T.z_len (ea_cons (ev_ixD (hu_room hr) (ev_var 0) (ev_int)) (ea_nil))) (ev_int)) (ea_nil)))))).ev) (ea_nil)))))
      (ess_one (es_raise rfl tk ⟨T.g_BadColumns, T.x_BadColumns, T.k_BadColumns, T.b_BadColumns, T.t_BadColumns⟩))
      (ess_nil)))
/-! ### faults_in : 0 board, 1 found, 2 row, 3 column -/
abbrev N_faults_in : List Str := ["board", "found", "row", "column"]
theorem sc_faults_in : FnScope N_faults_in ["board"] (defScope (topS 36)) := ⟨rfl, rfl, rfl, by decide +kernel, rfl, by decide +kernel, by decide +kernel⟩
def S_faults_in : ES := sCons (sSet 1 (mF (eComp (iSeq (eCall F_places_with (eCons (eVar 0) (eCons (eD (c_SLOPES)) (eNil))))) (aTup (aCons (aName 2) (aCons (aName 3) (aNil)))) (tTrue) (eTup (eCons (eD (c_BENT)) (eCons (eVar 2) (eCons (eVar 3) (eNil))))) [2, 3]))) (sRet (e2 dAdd (eVar 1) (eComp (iSeq (eCall F_places_with (eCons (eVar 0) (eCons (eD (c_FREE)) (eNil))))) (aTup (aCons (aName 2) (aCons (aName 3) (aNil)))) (tTrue) (eTup (eCons (eD (c_STUCK)) (eCons (eVar 2) (eCons (eVar 3) (eNil))))) [2, 3])))
def F_faults_in := runD 4 S_faults_in
theorem ok_faults_in (T : Txt P w K mg) : FnOk P w K mg base (L2.CX P w) 2 T.f_faults_in T.d_faults_in ["board"] (spF w K mg 1 F_faults_in) := by
  refine fn_ok (N := N_faults_in) (S := S_faults_in) T.F_faults_in sc_faults_in fun cdv A outer s H E hr => ?_
  have tk : Takes (cxOf (L2.CX P w) P w K mg base N_faults_in "faults_in" (defScope (topS 36)) T.f_faults_in cdv A outer s H E) (WD E) := tk_def
  have po : PassesOwn (model P w) (A.deeper (envOfC "faults_in" (defScope (topS 36)) s.heap.objs.size T.f_faults_in cdv)) (envOfC "faults_in" (defScope (topS 36)) s.heap.objs.size T.f_faults_in cdv) (cxOf (L2.CX P w) P w K mg base N_faults_in "faults_in" (defScope (topS 36)) T.f_faults_in cdv A outer s H E).xe := po_def
  exact ess_cons (es_setF (es_setLc (own := [("row", 2), ("column", 3)]) rfl sc_faults_in.nd rfl rfl (sw_true rfl rfl rfl (by decide +kernel)) (ei_seq (ev_call (ok_places_with T) rfl tk (hr.mono (by decide)) T.m_places_with T.F_places_with.kp T.b_places_with (ea_cons (ev_var 0) (ea_cons (ev_glob T.c_SLOPES) (ea_nil))))) (blkOk_by (N := N_faults_in) (sc := defScope (topS 36)) (by decide +kernel)) (fun _ _ _ _ _ => eg_tup rfl (egs_cons (eg_name 2 sc_faults_in.nd) (egs_cons (eg_name 3 sc_faults_in.nd) (egs_nil)))) (by decide) (fun _ _ _ _ _ => ets_nil) (fun _ _ _ _ _ => ev_tup (ea_cons (ev_glob T.c_BENT) (ea_cons (ev_var 2) (ea_cons (ev_var 3) (ea_nil)))))))
      (ess_one (es_ret (ev_add (ev_var 1) ((eo_comp (own := [("row", 2), ("column", 3)]) rfl sc_faults_in.nd (ei_seq (ev_call (ok_places_with T) rfl tk (hr.mono (by decide)) T.m_places_with T.F_places_with.kp T.b_places_with (ea_cons (ev_var 0) (ea_cons (ev_glob T.c_FREE) (ea_nil))))) (blkOk_by (N := N_faults_in) (sc := defScope (topS 36)) (by decide +kernel)) (fun _ _ _ _ _ => eg_tup rfl (egs_cons (eg_name 2 sc_faults_in.nd) (egs_cons (eg_name 3 sc_faults_in.nd) (egs_nil)))) (by decide) (fun _ _ _ _ _ => ets_nil) (fun _ _ _ _ _ => ev_tup (ea_cons (ev_glob T.c_STUCK) (ea_cons (ev_var 2) (ea_cons (ev_var 3) (ea_nil)))))).ev))))
/-! ### faults_of : 0 board -/
abbrev N_faults_of : List Str := ["board"]
theorem sc_faults_of : FnScope N_faults_of ["board"] (defScope (topS 37)) := ⟨rfl, rfl, rfl, by decide +kernel, rfl, by decide +kernel, by decide +kernel⟩
def S_faults_of : ES := sCons (sExpr (eCall F_check_board (eCons (eVar 0) (eNil)))) (sRet (eA dTuple (eCons (eCall F_faults_in (eCons (eVar 0) (eNil))) (eNil))))
def F_faults_of := runD 1 S_faults_of
theorem ok_faults_of (T : Txt P w K mg) : FnOk P w K mg base (L2.CX P w) 3 T.f_faults_of T.d_faults_of ["board"] (spF w K mg 1 F_faults_of) := by
  refine fn_ok (N := N_faults_of) (S := S_faults_of) T.F_faults_of sc_faults_of fun cdv A outer s H E hr => ?_
  have tk : Takes (cxOf (L2.CX P w) P w K mg base N_faults_of "faults_of" (defScope (topS 37)) T.f_faults_of cdv A outer s H E) (WD E) := tk_def
  have po : PassesOwn (model P w) (A.deeper (envOfC "faults_of" (defScope (topS 37)) s.heap.objs.size T.f_faults_of cdv)) (envOfC "faults_of" (defScope (topS 37)) s.heap.objs.size T.f_faults_of cdv) (cxOf (L2.CX P w) P w K mg base N_faults_of "faults_of" (defScope (topS 37)) T.f_faults_of cdv A outer s H E).xe := po_def
  exact ess_cons (es_expr (ev_call (ok_check_board T) rfl tk (hr.mono (by decide)) T.m_check_board T.F_check_board.kp T.b_check_board (ea_cons (ev_var 0) (ea_nil))))
      (ess_one (es_ret (ev_tuple T.z_tuple (ea_cons (ev_call (ok_faults_in T) rfl tk (hr.mono (by decide)) T.m_faults_in T.F_faults_in.kp T.b_faults_in (ea_cons (ev_var 0) (ea_nil))) (ea_nil)))))
/-! ### check_fault : 0 board, 1 fault, 2 one -/
abbrev N_check_fault : List Str := ["board", "fault", "one"]
theorem sc_check_fault : FnScope N_check_fault ["board", "fault"] (defScope (topS 38)) := ⟨rfl, rfl, rfl, by decide +kernel, rfl, by decide +kernel, by decide +kernel⟩
def S_check_fault : ES := sCons (sIf (tOrB (tNotB (tV (e1 (dIsi' "tuple") (eVar 1)))) (tOrB (tV (e2 dNe (eA dLenD (eCons (eVar 1) (eNil))) (eInt 3))) (tOrB (tV (e1 (dIsi' "bool") (e2 dIxD (eVar 1) (eInt 1)))) (tV (e1 (dIsi' "bool") (e2 dIxD (eVar 1) (eInt 2))))))) (sRaise "BadFault") (sNil)) (sIf (tNotB (tV (eA dAny (eCons (eComp (iSeq (eCall F_faults_in (eCons (eVar 0) (eNil)))) (aName 2) (tTrue) (e2 dEq (eVar 1) (eVar 2)) [2]) (eNil))))) (sRaise "BadFault") (sNil))
def F_check_fault := runD 3 S_check_fault
theorem ok_check_fault (T : Txt P w K mg) : FnOk P w K mg base (L2.CX P w) 3 T.f_check_fault T.d_check_fault ["board", "fault"] (spF w K mg 2 F_check_fault) := by
  refine fn_ok (N := N_check_fault) (S := S_check_fault) T.F_check_fault sc_check_fault fun cdv A outer s H E hr => ?_
  have tk : Takes (cxOf (L2.CX P w) P w K mg base N_check_fault "check_fault" (defScope (topS 38)) T.f_check_fault cdv A outer s H E) (WD E) := tk_def
  have po : PassesOwn (model P w) (A.deeper (envOfC "check_fault" (defScope (topS 38)) s.heap.objs.size T.f_check_fault cdv)) (envOfC "check_fault" (defScope (topS 38)) s.heap.objs.size T.f_check_fault cdv) (cxOf (L2.CX P w) P w K mg base N_check_fault "check_fault" (defScope (topS 38)) T.f_check_fault cdv A outer s H E).xe := po_def
  exact ess_cons (es_if (Ew.et (ew_or (et_not (et_val (ev_isi (T := "tuple") rfl T.z_isinstance T.z_tuple (by decide +kernel) (by decide +kernel) (ev_var 1)))) (ew_or (et_ne (hu_room hr) (ev_lenD T.z_len (ea_cons (ev_var 1) (ea_nil))) (ev_int)) (ew_or (et_val (ev_isi (T := "bool") rfl T.z_isinstance T.z_bool (by decide +kernel) (by decide +kernel) (ev_ixD (hu_room hr) (ev_var 1) (ev_int)))) (ew_or1 (et_val (ev_isi (T := "bool") rfl T.z_isinstance T.z_bool (by decide +kernel) (by decide +kernel) (ev_ixD (hu_room hr) (ev_var 1) (ev_int)))))))))
      (ess_one (es_raise rfl tk ⟨T.g_BadFault, T.x_BadFault, T.k_BadFault, T.b_BadFault, T.t_BadFault⟩))
      (ess_nil))
      (ess_one (es_if (et_not (et_val (ev_any rfl T.z_any (ea_cons ((eo_comp (own := [("one", 2)]) rfl sc_check_fault.nd (ei_seq (ev_call (ok_faults_in T) rfl tk (hr.mono (by decide)) T.m_faults_in T.F_faults_in.kp T.b_faults_in (ea_cons (ev_var 0) (ea_nil)))) (blkOk_by (N := N_check_fault) (sc := defScope (topS 38)) (by decide +kernel)) (fun _ _ _ _ _ => eg_name 2 sc_check_fault.nd) (by decide) (fun _ _ _ _ _ => ets_nil) (fun _ _ _ _ _ => ev_eq (hu_room hr) (ev_var 1) (ev_var 2))).ev) (ea_nil)))))
      (ess_one (es_raise rfl tk ⟨T.g_BadFault, T.x_BadFault, T.k_BadFault, T.b_BadFault, T.t_BadFault⟩))
      (ess_nil)))
/-! ### fall_with : 0 board, 1 fault, 2 column, 3 way, 4 row, 5 sign -/
abbrev N_fall_with : List Str := ["board", "fault", "column", "way", "row", "sign"]
theorem sc_fall_with : FnScope N_fall_with ["board", "fault", "column"] (defScope (topS 39)) := ⟨rfl, rfl, rfl, by decide +kernel, rfl, by decide +kernel, by decide +kernel⟩
def B_fall_with_1 : ES := sCons (sSet 5 (mF (e2 dIxD (e2 dIxD (eVar 0) (eVar 4)) (eVar 2)))) (sCons (sIf (tV (e2 dEq (eVar 5) (eD (c_STOP)))) (sRet (eTup (eCons (eVar 0) (eCons (eTup (eCons (eStr "stop") (eCons (eVar 4) (eCons (eVar 2) (eNil))))) (eNil))))) (sNil)) (sCons (sSet 3 (mF (eCall F_way_at (eCons (eVar 5) (eCons (eVar 3) (eNil)))))) (sCons (sIf (tV (e2 dEq (eVar 1) (eTup (eCons (eD (c_BENT)) (eCons (eVar 4) (eCons (eVar 2) (eNil))))))) (sSet 3 (mF (e2 dSub (eInt 0) (eVar 3)))) (sNil)) (sCons (sIf (tV (e2 dNe (eVar 1) (eTup (eCons (eD (c_STUCK)) (eCons (eVar 4) (eCons (eVar 2) (eNil))))))) (sSet 0 (mF (eCall F_behind (eCons (eVar 0) (eCons (eVar 4) (eCons (eVar 2) (eNil))))))) (sNil)) (sCons (sAug 2 dIAdd (eVar 3)) (sIf (tV (e1 dNotN (eCall F_beyond (eCons (eVar 0) (eCons (eVar 4) (eCons (eVar 2) (eNil))))))) (sRet (eTup (eCons (eVar 0) (eCons (eCall F_beyond (eCons (eVar 0) (eCons (eVar 4) (eCons (eVar 2) (eNil))))) (eNil))))) (sNil)))))))
def S_fall_with : ES := sCons (sSet 3 (mF (eD (c_STRAIGHT)))) (sCons (sFor (iRg1 (eA dLenD (eCons (eVar 0) (eNil)))) (aName 4) (B_fall_with_1) [4, 5]) (sRet (eTup (eCons (eVar 0) (eCons (eTup (eCons (eStr "out") (eCons (eVar 2) (eNil)))) (eNil))))))
def F_fall_with := runD 6 S_fall_with
theorem ok_fall_with (T : Txt P w K mg) : FnOk P w K mg base (L2.CX P w) 4 T.f_fall_with T.d_fall_with ["board", "fault", "column"] (spF w K mg 3 F_fall_with) := by
  refine fn_ok (N := N_fall_with) (S := S_fall_with) T.F_fall_with sc_fall_with fun cdv A outer s H E hr => ?_
  have tk : Takes (cxOf (L2.CX P w) P w K mg base N_fall_with "fall_with" (defScope (topS 39)) T.f_fall_with cdv A outer s H E) (WD E) := tk_def
  have po : PassesOwn (model P w) (A.deeper (envOfC "fall_with" (defScope (topS 39)) s.heap.objs.size T.f_fall_with cdv)) (envOfC "fall_with" (defScope (topS 39)) s.heap.objs.size T.f_fall_with cdv) (cxOf (L2.CX P w) P w K mg base N_fall_with "fall_with" (defScope (topS 39)) T.f_fall_with cdv A outer s H E).xe := po_def
  exact ess_cons (es_set 3 (Ev.em (ev_glob T.c_STRAIGHT)) sc_fall_with.nd)
      (ess_cons (es_for [4, 5] po rfl (ei_range1 T.z_range (ev_lenD T.z_len (ea_cons (ev_var 0) (ea_nil)))) (eg_name 4 sc_fall_with.nd)
      (ess_cons (es_set 5 (Ev.em (ev_ixD (hu_room hr) (ev_ixD (hu_room hr) (ev_var 0) (ev_var 4)) (ev_var 2))) sc_fall_with.nd)
      (ess_cons (es_if (et_eq (hu_room hr) (ev_var 5) (ev_glob T.c_STOP))
      (ess_one (es_ret (ev_tup (ea_cons (ev_var 0) (ea_cons (ev_tup (ea_cons (ev_str) (ea_cons (ev_var 4) (ea_cons (ev_var 2) (ea_nil))))) (ea_nil))))))
      (ess_nil))
      (ess_cons (es_set 3 (Ev.em (ev_call (ok_way_at T) rfl tk (hr.mono (by decide)) T.m_way_at T.F_way_at.kp T.b_way_at (ea_cons (ev_var 5) (ea_cons (ev_var 3) (ea_nil))))) sc_fall_with.nd)
      (ess_cons (es_if (et_eq (hu_room hr) (ev_var 1) (ev_tup (ea_cons (ev_glob T.c_BENT) (ea_cons (ev_var 4) (ea_cons (ev_var 2) (ea_nil))))))
      (ess_one (es_set 3 (Ev.em (ev_sub (ev_int) (ev_var 3))) sc_fall_with.nd))
      (ess_nil))
      (ess_cons (es_if (et_ne (hu_room hr) (ev_var 1) (ev_tup (ea_cons (ev_glob T.c_STUCK) (ea_cons (ev_var 4) (ea_cons (ev_var 2) (ea_nil))))))
      (ess_one (es_set 0 (Ev.em (ev_call (ok_behind T) rfl tk (hr.mono (by decide)) T.m_behind T.F_behind.kp T.b_behind (ea_cons (ev_var 0) (ea_cons (ev_var 4) (ea_cons (ev_var 2) (ea_nil)))))) sc_fall_with.nd))
      (ess_nil))
      (ess_cons (es_iadd 2 (ev_var 3) sc_fall_with.nd)
      (ess_one (es_if (et_notN (ev_call (ok_beyond T) rfl tk (hr.mono (by decide)) T.m_beyond T.F_beyond.kp T.b_beyond (ea_cons (ev_var 0) (ea_cons (ev_var 4) (ea_cons (ev_var 2) (ea_nil))))))
      (ess_one (es_ret (ev_tup (ea_cons (ev_var 0) (ea_cons (ev_call (ok_beyond T) rfl tk (hr.mono (by decide)) T.m_beyond T.F_beyond.kp T.b_beyond (ea_cons (ev_var 0) (ea_cons (ev_var 4) (ea_cons (ev_var 2) (ea_nil))))) (ea_nil))))))
      (ess_nil))))))))))
      (ess_one (es_ret (ev_tup (ea_cons (ev_var 0) (ea_cons (ev_tup (ea_cons (ev_str) (ea_cons (ev_var 2) (ea_nil)))) (ea_nil)))))))
/-! ### drop_with : 0 board, 1 fault, 2 column -/
abbrev N_drop_with : List Str := ["board", "fault", "column"]
theorem sc_drop_with : FnScope N_drop_with ["board", "fault", "column"] (defScope (topS 40)) := ⟨rfl, rfl, rfl, by decide +kernel, rfl, by decide +kernel, by decide +kernel⟩
def S_drop_with : ES := sCons (sExpr (eCall F_check_board (eCons (eVar 0) (eNil)))) (sCons (sExpr (eCall F_check_fault (eCons (eVar 0) (eCons (eVar 1) (eNil))))) (sCons (sExpr (eCall F_check_column (eCons (eVar 0) (eCons (eVar 2) (eNil))))) (sRet (eCall F_fall_with (eCons (eVar 0) (eCons (eVar 1) (eCons (eVar 2) (eNil))))))))
def F_drop_with := runD 3 S_drop_with
theorem ok_drop_with (T : Txt P w K mg) : FnOk P w K mg base (L2.CX P w) 5 T.f_drop_with T.d_drop_with ["board", "fault", "column"] (spF w K mg 3 F_drop_with) := by
  refine fn_ok (N := N_drop_with) (S := S_drop_with) T.F_drop_with sc_drop_with fun cdv A outer s H E hr => ?_
  have tk : Takes (cxOf (L2.CX P w) P w K mg base N_drop_with "drop_with" (defScope (topS 40)) T.f_drop_with cdv A outer s H E) (WD E) := tk_def
  have po : PassesOwn (model P w) (A.deeper (envOfC "drop_with" (defScope (topS 40)) s.heap.objs.size T.f_drop_with cdv)) (envOfC "drop_with" (defScope (topS 40)) s.heap.objs.size T.f_drop_with cdv) (cxOf (L2.CX P w) P w K mg base N_drop_with "drop_with" (defScope (topS 40)) T.f_drop_with cdv A outer s H E).xe := po_def
  exact ess_cons (es_expr (ev_call (ok_check_board T) rfl tk (hr.mono (by decide)) T.m_check_board T.F_check_board.kp T.b_check_board (ea_cons (ev_var 0) (ea_nil))))
      (ess_cons (es_expr (ev_call (ok_check_fault T) rfl tk (hr.mono (by decide)) T.m_check_fault T.F_check_fault.kp T.b_check_fault (ea_cons (ev_var 0) (ea_cons (ev_var 1) (ea_nil)))))
      (ess_cons (es_expr (ev_call (ok_check_column T) rfl tk (hr.mono (by decide)) T.m_check_column T.F_check_column.kp T.b_check_column (ea_cons (ev_var 0) (ea_cons (ev_var 2) (ea_nil)))))
      (ess_one (es_ret (ev_call (ok_fall_with T) rfl tk (hr.mono (by decide)) T.m_fall_with T.F_fall_with.kp T.b_fall_with (ea_cons (ev_var 0) (ea_cons (ev_var 1) (ea_cons (ev_var 2) (ea_nil)))))))))
/-! ### ends_in : 0 board, 1 fault, 2 columns, 3 ends, 4 column, 5 end -/
abbrev N_ends_in : List Str := ["board", "fault", "columns", "ends", "column", "end"]
theorem sc_ends_in : FnScope N_ends_in ["board", "fault", "columns"] (defScope (topS 41)) := ⟨rfl, rfl, rfl, by decide +kernel, rfl, by decide +kernel, by decide +kernel⟩
def B_ends_in_1 : ES := sCons (sAsg (eCall F_fall_with (eCons (eVar 0) (eCons (eVar 1) (eCons (eVar 4) (eNil))))) (aTup (aCons (aName 0) (aCons (aName 5) (aNil))))) (sApp 3 (eVar 5))
def S_ends_in : ES := sCons (sSet 3 (mO (eLst (eNil)))) (sCons (sFor (iSeq (eVar 2)) (aName 4) (B_ends_in_1) [2, 4, 5]) (sFrz 3 (sRet (eA dTuple (eCons (eVar 3) (eNil))))))
def F_ends_in := runD 6 S_ends_in
theorem ok_ends_in (T : Txt P w K mg) : FnOk P w K mg base (L2.CX P w) 5 T.f_ends_in T.d_ends_in ["board", "fault", "columns"] (spF w K mg 3 F_ends_in) := by
  refine fn_ok (N := N_ends_in) (S := S_ends_in) T.F_ends_in sc_ends_in fun cdv A outer s H E hr => ?_
  have tk : Takes (cxOf (L2.CX P w) P w K mg base N_ends_in "ends_in" (defScope (topS 41)) T.f_ends_in cdv A outer s H E) (WD E) := tk_def
  have po : PassesOwn (model P w) (A.deeper (envOfC "ends_in" (defScope (topS 41)) s.heap.objs.size T.f_ends_in cdv)) (envOfC "ends_in" (defScope (topS 41)) s.heap.objs.size T.f_ends_in cdv) (cxOf (L2.CX P w) P w K mg base N_ends_in "ends_in" (defScope (topS 41)) T.f_ends_in cdv A outer s H E).xe := po_def
  exact ess_cons (es_set 3 (Eo.em (eo_lst (ea_nil))) sc_ends_in.nd)
      (ess_cons (es_for [2, 4, 5] po rfl (ei_seq (ev_var 2)) (eg_name 4 sc_ends_in.nd)
      (ess_cons (es_asg (ev_call (ok_fall_with T) rfl tk (hr.mono (by decide)) T.m_fall_with T.F_fall_with.kp T.b_fall_with (ea_cons (ev_var 0) (ea_cons (ev_var 1) (ea_cons (ev_var 4) (ea_nil))))) (eg_tup rfl (egs_cons (eg_name 0 sc_ends_in.nd) (egs_cons (eg_name 5 sc_ends_in.nd) (egs_nil)))))
      (ess_one (es_app 3 (ev_var 5)))))
      (ess_one (es_frz 3 (es_ret (ev_tuple T.z_tuple (ea_cons (ev_var 3) (ea_nil)))))))
/-! ### ends_with : 0 board, 1 fault, 2 columns -/
abbrev N_ends_with : List Str := ["board", "fault", "columns"]
theorem sc_ends_with : FnScope N_ends_with ["board", "fault", "columns"] (defScope (topS 42)) := ⟨rfl, rfl, rfl, by decide +kernel, rfl, by decide +kernel, by decide +kernel⟩
def S_ends_with : ES := sCons (sExpr (eCall F_check_board (eCons (eVar 0) (eNil)))) (sCons (sExpr (eCall F_check_fault (eCons (eVar 0) (eCons (eVar 1) (eNil))))) (sCons (sExpr (eCall F_check_columns (eCons (eVar 0) (eCons (eVar 2) (eNil))))) (sRet (eCall F_ends_in (eCons (eVar 0) (eCons (eVar 1) (eCons (eVar 2) (eNil))))))))
def F_ends_with := runD 3 S_ends_with
theorem ok_ends_with (T : Txt P w K mg) : FnOk P w K mg base (L2.CX P w) 6 T.f_ends_with T.d_ends_with ["board", "fault", "columns"] (spF w K mg 3 F_ends_with) := by
  refine fn_ok (N := N_ends_with) (S := S_ends_with) T.F_ends_with sc_ends_with fun cdv A outer s H E hr => ?_
  have tk : Takes (cxOf (L2.CX P w) P w K mg base N_ends_with "ends_with" (defScope (topS 42)) T.f_ends_with cdv A outer s H E) (WD E) := tk_def
  have po : PassesOwn (model P w) (A.deeper (envOfC "ends_with" (defScope (topS 42)) s.heap.objs.size T.f_ends_with cdv)) (envOfC "ends_with" (defScope (topS 42)) s.heap.objs.size T.f_ends_with cdv) (cxOf (L2.CX P w) P w K mg base N_ends_with "ends_with" (defScope (topS 42)) T.f_ends_with cdv A outer s H E).xe := po_def
  exact ess_cons (es_expr (ev_call (ok_check_board T) rfl tk (hr.mono (by decide)) T.m_check_board T.F_check_board.kp T.b_check_board (ea_cons (ev_var 0) (ea_nil))))
      (ess_cons (es_expr (ev_call (ok_check_fault T) rfl tk (hr.mono (by decide)) T.m_check_fault T.F_check_fault.kp T.b_check_fault (ea_cons (ev_var 0) (ea_cons (ev_var 1) (ea_nil)))))
      (ess_cons (es_expr (ev_call (ok_check_columns T) rfl tk (hr.mono (by decide)) T.m_check_columns T.F_check_columns.kp T.b_check_columns (ea_cons (ev_var 0) (ea_cons (ev_var 2) (ea_nil)))))
      (ess_one (es_ret (ev_call (ok_ends_in T) rfl tk (hr.mono (by decide)) T.m_ends_in T.F_ends_in.kp T.b_ends_in (ea_cons (ev_var 0) (ea_cons (ev_var 1) (ea_cons (ev_var 2) (ea_nil)))))))))
/-! ### shows : 0 board, 1 fault, 2 columns -/
abbrev N_shows : List Str := ["board", "fault", "columns"]
theorem sc_shows : FnScope N_shows ["board", "fault", "columns"] (defScope (topS 43)) := ⟨rfl, rfl, rfl, by decide +kernel, rfl, by decide +kernel, by decide +kernel⟩
def S_shows : ES := sCons (sExpr (eCall F_check_board (eCons (eVar 0) (eNil)))) (sCons (sExpr (eCall F_check_fault (eCons (eVar 0) (eCons (eVar 1) (eNil))))) (sCons (sExpr (eCall F_check_columns (eCons (eVar 0) (eCons (eVar 2) (eNil))))) (sRet (e2 dNe (eCall F_ends_in (eCons (eVar 0) (eCons (eVar 1) (eCons (eVar 2) (eNil))))) (eCall F_ends_in (eCons (eVar 0) (eCons (eNone) (eCons (eVar 2) (eNil)))))))))
def F_shows := runD 3 S_shows
theorem ok_shows (T : Txt P w K mg) : FnOk P w K mg base (L2.CX P w) 6 T.f_shows T.d_shows ["board", "fault", "columns"] (spF w K mg 3 F_shows) := by
  refine fn_ok (N := N_shows) (S := S_shows) T.F_shows sc_shows fun cdv A outer s H E hr => ?_
  have tk : Takes (cxOf (L2.CX P w) P w K mg base N_shows "shows" (defScope (topS 43)) T.f_shows cdv A outer s H E) (WD E) := tk_def
  have po : PassesOwn (model P w) (A.deeper (envOfC "shows" (defScope (topS 43)) s.heap.objs.size T.f_shows cdv)) (envOfC "shows" (defScope (topS 43)) s.heap.objs.size T.f_shows cdv) (cxOf (L2.CX P w) P w K mg base N_shows "shows" (defScope (topS 43)) T.f_shows cdv A outer s H E).xe := po_def
  exact ess_cons (es_expr (ev_call (ok_check_board T) rfl tk (hr.mono (by decide)) T.m_check_board T.F_check_board.kp T.b_check_board (ea_cons (ev_var 0) (ea_nil))))
      (ess_cons (es_expr (ev_call (ok_check_fault T) rfl tk (hr.mono (by decide)) T.m_check_fault T.F_check_fault.kp T.b_check_fault (ea_cons (ev_var 0) (ea_cons (ev_var 1) (ea_nil)))))
      (ess_cons (es_expr (ev_call (ok_check_columns T) rfl tk (hr.mono (by decide)) T.m_check_columns T.F_check_columns.kp T.b_check_columns (ea_cons (ev_var 0) (ea_cons (ev_var 2) (ea_nil)))))
      (ess_one (es_ret (ev_ne (hu_room hr) (ev_call (ok_ends_in T) rfl tk (hr.mono (by decide)) T.m_ends_in T.F_ends_in.kp T.b_ends_in (ea_cons (ev_var 0) (ea_cons (ev_var 1) (ea_cons (ev_var 2) (ea_nil))))) (ev_call (ok_ends_in T) rfl tk (hr.mono (by decide)) T.m_ends_in T.F_ends_in.kp T.b_ends_in (ea_cons (ev_var 0) (ea_cons (ev_none) (ea_cons (ev_var 2) (ea_nil))))))))))
/-! ### hidden_in : 0 board, 1 columns, 2 right, 3 fault -/
abbrev N_hidden_in : List Str := ["board", "columns", "right", "fault"]
theorem sc_hidden_in : FnScope N_hidden_in ["board", "columns"] (defScope (topS 44)) := ⟨rfl, rfl, rfl, by decide +kernel, rfl, by decide +kernel, by decide +kernel⟩
def S_hidden_in : ES := sCons (sSet 2 (mF (eCall F_ends_in (eCons (eVar 0) (eCons (eNone) (eCons (eVar 1) (eNil))))))) (sRet (eComp (iSeq (eCall F_faults_in (eCons (eVar 0) (eNil)))) (aName 3) (tV (e2 dEq (eCall F_ends_in (eCons (eVar 0) (eCons (eVar 3) (eCons (eVar 1) (eNil))))) (eVar 2))) (eVar 3) [3]))
def F_hidden_in := runD 4 S_hidden_in
theorem ok_hidden_in (T : Txt P w K mg) : FnOk P w K mg base (L2.CX P w) 6 T.f_hidden_in T.d_hidden_in ["board", "columns"] (spF w K mg 2 F_hidden_in) := by
  refine fn_ok (N := N_hidden_in) (S := S_hidden_in) T.F_hidden_in sc_hidden_in fun cdv A outer s H E hr => ?_
  have tk : Takes (cxOf (L2.CX P w) P w K mg base N_hidden_in "hidden_in" (defScope (topS 44)) T.f_hidden_in cdv A outer s H E) (WD E) := tk_def
  have po : PassesOwn (model P w) (A.deeper (envOfC "hidden_in" (defScope (topS 44)) s.heap.objs.size T.f_hidden_in cdv)) (envOfC "hidden_in" (defScope (topS 44)) s.heap.objs.size T.f_hidden_in cdv) (cxOf (L2.CX P w) P w K mg base N_hidden_in "hidden_in" (defScope (topS 44)) T.f_hidden_in cdv A outer s H E).xe := po_def
  exact ess_cons (es_set 2 (Ev.em (ev_call (ok_ends_in T) rfl tk (hr.mono (by decide)) T.m_ends_in T.F_ends_in.kp T.b_ends_in (ea_cons (ev_var 0) (ea_cons (ev_none) (ea_cons (ev_var 1) (ea_nil)))))) sc_hidden_in.nd)
      (ess_one (es_ret ((eo_comp (own := [("fault", 3)]) rfl sc_hidden_in.nd (ei_seq (ev_call (ok_faults_in T) rfl tk (hr.mono (by decide)) T.m_faults_in T.F_faults_in.kp T.b_faults_in (ea_cons (ev_var 0) (ea_nil)))) (blkOk_by (N := N_hidden_in) (sc := defScope (topS 44)) (by decide +kernel)) (fun _ _ _ _ _ => eg_name 3 sc_hidden_in.nd) (by decide) (fun _ _ _ _ _ => ets_one (et_eq (hu_room hr) (ev_call (ok_ends_in T) rfl takes0 (hr.mono (by decide)) T.m_ends_in T.F_ends_in.kp T.b_ends_in (ea_cons (ev_var 0) (ea_cons (ev_var 3) (ea_cons (ev_var 1) (ea_nil))))) (ev_var 2))) (fun _ _ _ _ _ => ev_var 3)).ev)))
/-! ### hidden : 0 board, 1 columns -/
abbrev N_hidden : List Str := ["board", "columns"]
theorem sc_hidden : FnScope N_hidden ["board", "columns"] (defScope (topS 45)) := ⟨rfl, rfl, rfl, by decide +kernel, rfl, by decide +kernel, by decide +kernel⟩
def S_hidden : ES := sCons (sExpr (eCall F_check_board (eCons (eVar 0) (eNil)))) (sCons (sExpr (eCall F_check_columns (eCons (eVar 0) (eCons (eVar 1) (eNil))))) (sRet (eA dTuple (eCons (eCall F_hidden_in (eCons (eVar 0) (eCons (eVar 1) (eNil)))) (eNil)))))
def F_hidden := runD 2 S_hidden
theorem ok_hidden (T : Txt P w K mg) : FnOk P w K mg base (L2.CX P w) 7 T.f_hidden T.d_hidden ["board", "columns"] (spF w K mg 2 F_hidden) := by
  refine fn_ok (N := N_hidden) (S := S_hidden) T.F_hidden sc_hidden fun cdv A outer s H E hr => ?_
  have tk : Takes (cxOf (L2.CX P w) P w K mg base N_hidden "hidden" (defScope (topS 45)) T.f_hidden cdv A outer s H E) (WD E) := tk_def
  have po : PassesOwn (model P w) (A.deeper (envOfC "hidden" (defScope (topS 45)) s.heap.objs.size T.f_hidden cdv)) (envOfC "hidden" (defScope (topS 45)) s.heap.objs.size T.f_hidden cdv) (cxOf (L2.CX P w) P w K mg base N_hidden "hidden" (defScope (topS 45)) T.f_hidden cdv A outer s H E).xe := po_def
  exact ess_cons (es_expr (ev_call (ok_check_board T) rfl tk (hr.mono (by decide)) T.m_check_board T.F_check_board.kp T.b_check_board (ea_cons (ev_var 0) (ea_nil))))
      (ess_cons (es_expr (ev_call (ok_check_columns T) rfl tk (hr.mono (by decide)) T.m_check_columns T.F_check_columns.kp T.b_check_columns (ea_cons (ev_var 0) (ea_cons (ev_var 1) (ea_nil)))))
      (ess_one (es_ret (ev_tuple T.z_tuple (ea_cons (ev_call (ok_hidden_in T) rfl tk (hr.mono (by decide)) T.m_hidden_in T.F_hidden_in.kp T.b_hidden_in (ea_cons (ev_var 0) (ea_cons (ev_var 1) (ea_nil)))) (ea_nil))))))
/-! ### alike : 0 board, 1 columns, 2 found, 3 fault, 4 ends -/
abbrev N_alike : List Str := ["board", "columns", "found", "fault", "ends"]
theorem sc_alike : FnScope N_alike ["board", "columns"] (defScope (topS 46)) := ⟨rfl, rfl, rfl, by decide +kernel, rfl, by decide +kernel, by decide +kernel⟩
def B_alike_1 : ES := sCons (sSet 4 (mF (eCall F_ends_in (eCons (eVar 0) (eCons (eVar 3) (eCons (eVar 1) (eNil))))))) (sSetD 2 (eBor 2 (e2 dAdd (eM "dict" dGetM (eVar 2) (eCons (eVar 4) (eCons (eTup (eNil)) (eNil)))) (eTup (eCons (eVar 3) (eNil))))) (eVar 4))
def S_alike : ES := sCons (sExpr (eCall F_check_board (eCons (eVar 0) (eNil)))) (sCons (sExpr (eCall F_check_columns (eCons (eVar 0) (eCons (eVar 1) (eNil))))) (sCons (sSet 2 (mO (eDict0))) (sCons (sFor (iSeq (eCall F_faults_in (eCons (eVar 0) (eNil)))) (aName 3) (B_alike_1) [3, 4]) (sFrz 2 (sRet (eA dTuple (eCons (eA dSortedD (eCons (eComp (iSeqD (eVar 2)) (aName 4) (tTrue) (e2 dIxD (eVar 2) (eVar 4)) [4]) (eNil))) (eNil))))))))
def F_alike := runD 5 S_alike
theorem ok_alike (T : Txt P w K mg) : FnOk P w K mg base (L2.CX P w) 6 T.f_alike T.d_alike ["board", "columns"] (spF w K mg 2 F_alike) := by
  refine fn_ok (N := N_alike) (S := S_alike) T.F_alike sc_alike fun cdv A outer s H E hr => ?_
  have tk : Takes (cxOf (L2.CX P w) P w K mg base N_alike "alike" (defScope (topS 46)) T.f_alike cdv A outer s H E) (WD E) := tk_def
  have po : PassesOwn (model P w) (A.deeper (envOfC "alike" (defScope (topS 46)) s.heap.objs.size T.f_alike cdv)) (envOfC "alike" (defScope (topS 46)) s.heap.objs.size T.f_alike cdv) (cxOf (L2.CX P w) P w K mg base N_alike "alike" (defScope (topS 46)) T.f_alike cdv A outer s H E).xe := po_def
  exact ess_cons (es_expr (ev_call (ok_check_board T) rfl tk (hr.mono (by decide)) T.m_check_board T.F_check_board.kp T.b_check_board (ea_cons (ev_var 0) (ea_nil))))
      (ess_cons (es_expr (ev_call (ok_check_columns T) rfl tk (hr.mono (by decide)) T.m_check_columns T.F_check_columns.kp T.b_check_columns (ea_cons (ev_var 0) (ea_cons (ev_var 1) (ea_nil)))))
      (ess_cons (es_set 2 (Eo.em (eo_dict0)) sc_alike.nd)
      (ess_cons (es_for [3, 4] po rfl (ei_seq (ev_call (ok_faults_in T) rfl tk (hr.mono (by decide)) T.m_faults_in T.F_faults_in.kp T.b_faults_in (ea_cons (ev_var 0) (ea_nil)))) (eg_name 3 sc_alike.nd)
      (ess_cons (es_set 4 (Ev.em (ev_call (ok_ends_in T) rfl tk (hr.mono (by decide)) T.m_ends_in T.F_ends_in.kp T.b_ends_in (ea_cons (ev_var 0) (ea_cons (ev_var 3) (ea_cons (ev_var 1) (ea_nil)))))) sc_alike.nd)
      (ess_one (es_setD (hu_room hr) 2 (ev_bor 2 (ev_add (ev_get (hu_room hr) (ev_var 2) (ea_cons (ev_var 4) (ea_cons (ev_tup (ea_nil)) (ea_nil)))) (ev_tup (ea_cons (ev_var 3) (ea_nil))))) (ev_var 4)))))
      (ess_one (es_frz 2 (es_ret (ev_tuple T.z_tuple (ea_cons ((eo_sortedD rfl (hu_room hr) T.z_sorted (ea_cons ((eo_comp (own := [("ends", 4)]) rfl sc_alike.nd (ei_seqD (ei_seq (ev_var 2)) (ev_var 2)) (blkOk_by (N := N_alike) (sc := defScope (topS 46)) (by decide +kernel)) (fun _ _ _ _ _ => eg_name 4 sc_alike.nd) (by decide) (fun _ _ _ _ _ => ets_nil) (fun _ _ _ _ _ => ev_ixD (hu_room hr) (ev_var 2) (ev_var 4))).ev) (ea_nil))).ev) (ea_nil)))))))))
/-! ### _law_draws : 0 script, 1 many, 2 draws, 3 seed, 4 cell, 5 k, 6 number -/
abbrev N__law_draws : List Str := ["script", "many", "draws", "seed", "cell", "k", "number"]
theorem sc__law_draws : FnScope N__law_draws ["script", "many"] (defScope (topS 48)) := ⟨rfl, rfl, rfl, by decide +kernel, rfl, by decide +kernel, by decide +kernel⟩
theorem ok__law_draws (T : Txt P w K mg) : FnOk P w K mg base (L2.CX P w) 1 T.f__law_draws T.d__law_draws ["script", "many"] (spS w K mg 2 F__law_draws) := by
  refine fn_okS (N := N__law_draws) (S := S__law_draws) T.F__law_draws sc__law_draws fun cdv A outer s H E hr => ?_
  have tk : Takes (cxOf (L2.CX P w) P w K mg base N__law_draws "_law_draws" (defScope (topS 48)) T.f__law_draws cdv A outer s H E) (WD E) := tk_def
  have po : PassesOwn (model P w) (A.deeper (envOfC "_law_draws" (defScope (topS 48)) s.heap.objs.size T.f__law_draws cdv)) (envOfC "_law_draws" (defScope (topS 48)) s.heap.objs.size T.f__law_draws cdv) (cxOf (L2.CX P w) P w K mg base N__law_draws "_law_draws" (defScope (topS 48)) T.f__law_draws cdv A outer s H E).xe := po_def
  exact ess_cons (es_set 2 (Eo.em (eo_lst (ea_nil))) sc__law_draws.nd)
      (ess_cons (es_set 3 (Ev.em (ev_int)) sc__law_draws.nd)
      (ess_cons (es_for [0, 4, 5, 6] po rfl (ei_seq (ev_cutS 0 (ep_none) (ep_some (ev_int)))) (eg_name 4 sc__law_draws.nd)
      (ess_cons (es_set 6 (Ev.em (ev_abs T.z_abs (ea_cons (ev_var 4) (ea_nil)))) sc__law_draws.nd)
      (ess_cons (es_set 3 (Ev.em (ev_mod (ev_intc T.z_int (ea_cons (ev_add (ev_add (ev_mul (ev_var 3) (ev_int)) (ev_var 6)) (ev_int)) (ea_nil))) (ev_int))) sc__law_draws.nd)
      (ess_one (es_if (et_ge (ev_var 6) (ev_pow (ev_int) (ev_int)))
      (ess_one (es_for [0, 4, 5] po rfl (ei_range1 T.z_range (ev_int)) (eg_name 5 sc__law_draws.nd)
      (ess_one (es_if (et_gt (ev_var 6) (ev_int))
      (ess_cons (es_app 2 (ev_mod (ev_intc T.z_int (ea_cons (ev_var 6) (ea_nil))) (ev_int)))
      (ess_one (es_set 6 (Ev.em (ev_fdiv (ev_var 6) (ev_int))) sc__law_draws.nd)))
      (ess_nil)))))
      (ess_one (es_app 2 (ev_mod (ev_fdiv (ev_intc T.z_int (ea_cons (ev_add (ev_mul (ev_var 3) (ev_int)) (ev_int)) (ea_nil))) (ev_int)) (ev_int)))))))))
      (ess_cons (es_for [0, 4, 5, 6] po rfl (ei_range1 T.z_range (ev_var 1)) (eg_name 5 sc__law_draws.nd)
      (ess_one (es_if (et_bor 2 (et_lt (hu_room hr) (ev_len T.z_len (ea_cons (ev_var 2) (ea_nil))) (ev_var 1)))
      (ess_cons (es_set 3 (Ev.em (ev_mod (ev_intc T.z_int (ea_cons (ev_add (ev_add (ev_mul (ev_var 3) (ev_int)) (ev_var 5)) (ev_int)) (ea_nil))) (ev_int))) sc__law_draws.nd)
      (ess_one (es_app 2 (ev_mod (ev_fdiv (ev_intc T.z_int (ea_cons (ev_var 3) (ea_nil))) (ev_int)) (ev_int)))))
      (ess_nil))))
      (ess_one (es_frz 2 (es_ret (ev_cut (ev_var 2) (ep_none) (ep_some (ev_var 1)))))))))
/-! ### _law_board : 0 draws, 1 signs, 2 wide, 3 high, 4 row, 5 column -/
abbrev N__law_board : List Str := ["draws", "signs", "wide", "high", "row", "column"]
theorem sc__law_board : FnScope N__law_board ["draws", "signs"] (defScope (topS 49)) := ⟨rfl, rfl, rfl, by decide +kernel, rfl, by decide +kernel, by decide +kernel⟩
def S__law_board : ES := sCons (sAsg (eTup (eCons (e2 dAdd (eInt 1) (e2 dMod (eA dInt (eCons (e2 dIxD (eVar 0) (eInt 0)) (eNil))) (eInt 6))) (eCons (e2 dAdd (eInt 1) (e2 dMod (eA dInt (eCons (e2 dIxD (eVar 0) (eInt 1)) (eNil))) (eInt 6))) (eNil)))) (aTup (aCons (aName 2) (aCons (aName 3) (aNil))))) (sRet (eA dTuple (eCons (eComp (iRg1 (eVar 3)) (aName 4) (tTrue) (eM "str" dJoin (eStr "") (eCons (eComp (iRg1 (eVar 2)) (aName 5) (tTrue) (e2 dIxD (eVar 1) (e2 dMod (e2 dFdiv (eA dInt (eCons (e2 dIxD (eVar 0) (e2 dAdd (eInt 2) (e2 dMod (e2 dAdd (e2 dMul (eInt 7) (eVar 4)) (eVar 5)) (eInt 24)))) (eNil))) (e2 dAdd (eInt 1) (e2 dMod (eVar 4) (eInt 3)))) (eA dLenD (eCons (eVar 1) (eNil))))) [5]) (eNil))) [4]) (eNil))))
def F__law_board := runD 6 S__law_board
theorem ok__law_board (T : Txt P w K mg) : FnOk P w K mg base (L2.CX P w) 1 T.f__law_board T.d__law_board ["draws", "signs"] (spF w K mg 2 F__law_board) := by
  refine fn_ok (N := N__law_board) (S := S__law_board) T.F__law_board sc__law_board fun cdv A outer s H E hr => ?_
  have tk : Takes (cxOf (L2.CX P w) P w K mg base N__law_board "_law_board" (defScope (topS 49)) T.f__law_board cdv A outer s H E) (WD E) := tk_def
  have po : PassesOwn (model P w) (A.deeper (envOfC "_law_board" (defScope (topS 49)) s.heap.objs.size T.f__law_board cdv)) (envOfC "_law_board" (defScope (topS 49)) s.heap.objs.size T.f__law_board cdv) (cxOf (L2.CX P w) P w K mg base N__law_board "_law_board" (defScope (topS 49)) T.f__law_board cdv A outer s H E).xe := po_def
  exact ess_cons (es_asg (ev_tup (ea_cons (ev_add (ev_int) (ev_mod (ev_intc T.z_int (ea_cons (ev_ixD (hu_room hr) (ev_var 0) (ev_int)) (ea_nil))) (ev_int))) (ea_cons (ev_add (ev_int) (ev_mod (ev_intc T.z_int (ea_cons (ev_ixD (hu_room hr) (ev_var 0) (ev_int)) (ea_nil))) (ev_int))) (ea_nil)))) (eg_tup rfl (egs_cons (eg_name 2 sc__law_board.nd) (egs_cons (eg_name 3 sc__law_board.nd) (egs_nil)))))
      (ess_one (es_ret (ev_tuple T.z_tuple (ea_cons ((eo_comp (own := [("row", 4)]) rfl sc__law_board.nd (ei_range1 T.z_range (ev_var 3)) (blkOk_by (N := N__law_board) (sc := defScope (topS 49)) (by decide +kernel)) (fun _ _ _ _ _ => eg_name 4 sc__law_board.nd) (by decide) (fun _ _ _ _ _ => ets_nil) (fun _ _ _ _ _ => ev_join (ev_str) (ea_cons ((eo_comp (own := [("column", 5)]) rfl sc__law_board.nd (ei_range1 T.z_range (ev_var 2)) (blkOk_by (by kernel_rfl)) (fun _ _ _ _ _ => eg_name 5 sc__law_board.nd) (by decide) (fun _ _ _ _ _ => ets_nil) (fun _ _ _ _ _ => ev_ixD (hu_room hr) (ev_var 1) (ev_mod (ev_fdiv (ev_intc T.z_int (ea_cons (ev_ixD (hu_room hr) (ev_var 0) (ev_add (ev_int) (ev_mod (ev_add (ev_mul (ev_int) (ev_var 4)) (ev_var 5)) (ev_int)))) (ea_nil))) (ev_add (ev_int) (ev_mod (ev_var 4) (ev_int)))) (ev_lenD T.z_len (ea_cons (ev_var 1) (ea_nil)))))).ev) (ea_nil)))).ev) (ea_nil)))))
/-! ### _law_group : 0 board, 1 place, 2 own, 3 turn, 4 more, 5 row, 6 k, 7 a, 8 b -/
abbrev N__law_group : List Str := ["board", "place", "own", "turn", "more", "row", "k", "a", "b"]
theorem sc__law_group : FnScope N__law_group ["board", "place"] (defScope (topS 50)) := ⟨rfl, rfl, rfl, by decide +kernel, rfl, by decide +kernel, by decide +kernel⟩
def B__law_group_1 : ES := sSet 4 (mF (e2 dAdd (eVar 4) (eComp (iRg1 (eA dLenD (eCons (e2 dIxD (eVar 0) (eInt 0)) (eNil)))) (aName 6) (tAndB (tV (e2 dInD (e2 dIxD (e2 dIxD (eVar 0) (eVar 5)) (eVar 6)) (eStr "<>"))) (tAndB (tV (e2 dNotInD (eTup (eCons (eVar 5) (eCons (eVar 6) (eNil)))) (eVar 2))) (tV (eA dAny (eCons (eComp (iSeq (eVar 2)) (aTup (aCons (aName 7) (aCons (aName 8) (aNil)))) (tTrue) (e2 dEq (e2 dAdd (eA dAbs (eCons (e2 dSub (eVar 5) (eVar 7)) (eNil))) (eA dAbs (eCons (e2 dSub (eVar 6) (eVar 8)) (eNil)))) (eInt 1)) [7, 8]) (eNil)))))) (eTup (eCons (eVar 5) (eCons (eVar 6) (eNil)))) [6])))
def B__law_group_2 : ES := sCons (sSet 4 (mF (eLst (eNil)))) (sCons (sFor (iRg1 (eA dLenD (eCons (eVar 0) (eNil)))) (aName 5) (B__law_group_1) [1, 3, 5, 6, 7, 8]) (sSet 2 (mF (e2 dAdd (eVar 2) (eVar 4)))))
def S__law_group : ES := sCons (sSet 2 (mF (eLst (eCons (eVar 1) (eNil))))) (sCons (sFor (iRg1 (eInt 40)) (aName 3) (B__law_group_2) [1, 3, 4, 5, 6, 7, 8]) (sRet (eA dSortedD (eCons (eVar 2) (eNil)))))
def F__law_group := runD 9 S__law_group
theorem ok__law_group (T : Txt P w K mg) : FnOk P w K mg base (L2.CX P w) 1 T.f__law_group T.d__law_group ["board", "place"] (spF w K mg 2 F__law_group) := by
  refine fn_ok (N := N__law_group) (S := S__law_group) T.F__law_group sc__law_group fun cdv A outer s H E hr => ?_
  have tk : Takes (cxOf (L2.CX P w) P w K mg base N__law_group "_law_group" (defScope (topS 50)) T.f__law_group cdv A outer s H E) (WD E) := tk_def
  have po : PassesOwn (model P w) (A.deeper (envOfC "_law_group" (defScope (topS 50)) s.heap.objs.size T.f__law_group cdv)) (envOfC "_law_group" (defScope (topS 50)) s.heap.objs.size T.f__law_group cdv) (cxOf (L2.CX P w) P w K mg base N__law_group "_law_group" (defScope (topS 50)) T.f__law_group cdv A outer s H E).xe := po_def
  exact ess_cons (es_set 2 (Ev.em ((eo_lst (ea_cons (ev_var 1) (ea_nil))).ev)) sc__law_group.nd)
      (ess_cons (es_for [1, 3, 4, 5, 6, 7, 8] po rfl (ei_range1 T.z_range (ev_int)) (eg_name 3 sc__law_group.nd)
      (ess_cons (es_set 4 (Ev.em ((eo_lst (ea_nil)).ev)) sc__law_group.nd)
      (ess_cons (es_for [1, 3, 5, 6, 7, 8] po rfl (ei_range1 T.z_range (ev_lenD T.z_len (ea_cons (ev_var 0) (ea_nil)))) (eg_name 5 sc__law_group.nd)
      (ess_one (es_set 4 (Ev.em (ev_add (ev_var 4) ((eo_comp (own := [("k", 6)]) rfl sc__law_group.nd (ei_range1 T.z_range (ev_lenD T.z_len (ea_cons (ev_ixD (hu_room hr) (ev_var 0) (ev_int)) (ea_nil)))) (blkOk_by (N := N__law_group) (sc := defScope (topS 50)) (by decide +kernel)) (fun _ _ _ _ _ => eg_name 6 sc__law_group.nd) (by decide) (fun _ _ _ _ _ => ets_one (Ew.et (ew_and (et_inD (hu_room hr) (ev_ixD (hu_room hr) (ev_ixD (hu_room hr) (ev_var 0) (ev_var 5)) (ev_var 6)) (ev_str)) (ew_and (et_notInD (hu_room hr) (ev_tup (ea_cons (ev_var 5) (ea_cons (ev_var 6) (ea_nil)))) (ev_var 2)) (ew_and1 (et_val (ev_any rfl T.z_any (ea_cons ((eo_comp (own := [("a", 7), ("b", 8)]) rfl sc__law_group.nd (ei_seq (ev_var 2)) (blkOk_by (by kernel_rfl)) (fun _ _ _ _ _ => eg_tup rfl (egs_cons (eg_name 7 sc__law_group.nd) (egs_cons (eg_name 8 sc__law_group.nd) (egs_nil)))) (by decide) (fun _ _ _ _ _ => ets_nil) (fun _ _ _ _ _ => ev_eq (hu_room hr) (ev_add (ev_abs T.z_abs (ea_cons (ev_sub (ev_var 5) (ev_var 7)) (ea_nil))) (ev_abs T.z_abs (ea_cons (ev_sub (ev_var 6) (ev_var 8)) (ea_nil)))) (ev_int))).ev) (ea_nil))))))))) (fun _ _ _ _ _ => ev_tup (ea_cons (ev_var 5) (ea_cons (ev_var 6) (ea_nil))))).ev))) sc__law_group.nd)))
      (ess_one (es_set 2 (Ev.em (ev_add (ev_var 2) (ev_var 4))) sc__law_group.nd)))))
      (ess_one (es_ret ((eo_sortedD rfl (hu_room hr) T.z_sorted (ea_cons (ev_var 2) (ea_nil))).ev))))
/-! ### _law_turned : 0 board, 1 places, 2 other, 3 row, 4 k -/
abbrev N__law_turned : List Str := ["board", "places", "other", "row", "k"]
theorem sc__law_turned : FnScope N__law_turned ["board", "places"] (defScope (topS 51)) := ⟨rfl, rfl, rfl, by decide +kernel, rfl, by decide +kernel, by decide +kernel⟩
def S__law_turned : ES := sCons (sSet 2 (mF (eDisp [(eStr "L", eStr "R"), (eStr "R", eStr "L"), (eStr "<", eStr ">"), (eStr ">", eStr "<")]))) (sRet (eA dTuple (eCons (eComp (iRg1 (eA dLenD (eCons (eVar 0) (eNil)))) (aName 3) (tTrue) (eM "str" dJoin (eStr "") (eCons (eComp (iRg1 (eA dLenD (eCons (e2 dIxD (eVar 0) (eInt 0)) (eNil)))) (aName 4) (tTrue) (eIte (tV (e2 dInD (eTup (eCons (eVar 3) (eCons (eVar 4) (eNil)))) (eVar 1))) (e2 dIxD (eVar 2) (e2 dIxD (e2 dIxD (eVar 0) (eVar 3)) (eVar 4))) (e2 dIxD (e2 dIxD (eVar 0) (eVar 3)) (eVar 4))) [4]) (eNil))) [3]) (eNil))))
def F__law_turned := runD 5 S__law_turned
theorem ok__law_turned (T : Txt P w K mg) : FnOk P w K mg base (L2.CX P w) 1 T.f__law_turned T.d__law_turned ["board", "places"] (spF w K mg 2 F__law_turned) := by
  refine fn_ok (N := N__law_turned) (S := S__law_turned) T.F__law_turned sc__law_turned fun cdv A outer s H E hr => ?_
  have tk : Takes (cxOf (L2.CX P w) P w K mg base N__law_turned "_law_turned" (defScope (topS 51)) T.f__law_turned cdv A outer s H E) (WD E) := tk_def
  have po : PassesOwn (model P w) (A.deeper (envOfC "_law_turned" (defScope (topS 51)) s.heap.objs.size T.f__law_turned cdv)) (envOfC "_law_turned" (defScope (topS 51)) s.heap.objs.size T.f__law_turned cdv) (cxOf (L2.CX P w) P w K mg base N__law_turned "_law_turned" (defScope (topS 51)) T.f__law_turned cdv A outer s H E).xe := po_def
  exact ess_cons (es_set 2 (Ev.em ((eo_disp (hu_room hr) (.cons (ev_str) (ev_str) (.cons (ev_str) (ev_str) (.cons (ev_str) (ev_str) (.cons (ev_str) (ev_str) .nil))))).ev)) sc__law_turned.nd)
      (ess_one (es_ret (ev_tuple T.z_tuple (ea_cons ((eo_comp (own := [("row", 3)]) rfl sc__law_turned.nd (ei_range1 T.z_range (ev_lenD T.z_len (ea_cons (ev_var 0) (ea_nil)))) (blkOk_by (N := N__law_turned) (sc := defScope (topS 51)) (by decide +kernel)) (fun _ _ _ _ _ => eg_name 3 sc__law_turned.nd) (by decide) (fun _ _ _ _ _ => ets_nil) (fun _ _ _ _ _ => ev_join (ev_str) (ea_cons ((eo_comp (own := [("k", 4)]) rfl sc__law_turned.nd (ei_range1 T.z_range (ev_lenD T.z_len (ea_cons (ev_ixD (hu_room hr) (ev_var 0) (ev_int)) (ea_nil)))) (blkOk_by (by kernel_rfl)) (fun _ _ _ _ _ => eg_name 4 sc__law_turned.nd) (by decide) (fun _ _ _ _ _ => ets_nil) (fun _ _ _ _ _ => ev_ite (et_inD (hu_room hr) (ev_tup (ea_cons (ev_var 3) (ea_cons (ev_var 4) (ea_nil)))) (ev_var 1)) (ev_ixD (hu_room hr) (ev_var 2) (ev_ixD (hu_room hr) (ev_ixD (hu_room hr) (ev_var 0) (ev_var 3)) (ev_var 4))) (ev_ixD (hu_room hr) (ev_ixD (hu_room hr) (ev_var 0) (ev_var 3)) (ev_var 4)))).ev) (ea_nil)))).ev) (ea_nil)))))
/-! ### _law_with : 0 board, 1 fault, 2 column, 3 way, 4 row, 5 sign -/
abbrev N__law_with : List Str := ["board", "fault", "column", "way", "row", "sign"]
theorem sc__law_with : FnScope N__law_with ["board", "fault", "column"] (defScope (topS 53)) := ⟨rfl, rfl, rfl, by decide +kernel, rfl, by decide +kernel, by decide +kernel⟩
def B__law_with_1 : ES := sCons (sSet 5 (mF (e2 dIxD (e2 dIxD (eVar 0) (eVar 4)) (eVar 2)))) (sCons (sIf (tV (e2 dEq (eVar 5) (eStr "#"))) (sRet (eTup (eCons (eVar 0) (eCons (eTup (eCons (eStr "stop") (eCons (eVar 4) (eCons (eVar 2) (eNil))))) (eNil))))) (sNil)) (sCons (sSet 3 (mF (eIte (tV (e2 dEq (eVar 5) (eStr "X"))) (eVar 3) (eIte (tV (e2 dEq (eVar 5) (eStr "."))) (eInt 0) (eIte (tV (e2 dInD (eVar 5) (eStr "\\R>"))) (eInt 1) (e1 dNeg (eInt 1))))))) (sCons (sSet 3 (mF (eIte (tV (e2 dEq (eVar 1) (eTup (eCons (eStr "bent") (eCons (eVar 4) (eCons (eVar 2) (eNil))))))) (e2 dSub (eInt 0) (eVar 3)) (eVar 3)))) (sCons (sIf (tAndB (tV (e2 dInD (eVar 5) (eStr "LR<>"))) (tV (e2 dNe (eVar 1) (eTup (eCons (eStr "stuck") (eCons (eVar 4) (eCons (eVar 2) (eNil)))))))) (sSet 0 (mF (eCall F__law_turned (eCons (eVar 0) (eCons (eIte (tV (e2 dInD (eVar 5) (eStr "LR"))) (eLst (eCons (eTup (eCons (eVar 4) (eCons (eVar 2) (eNil)))) (eNil))) (eCall F__law_group (eCons (eVar 0) (eCons (eTup (eCons (eVar 4) (eCons (eVar 2) (eNil)))) (eNil))))) (eNil)))))) (sNil)) (sCons (sSet 2 (mF (e2 dAdd (eVar 2) (eVar 3)))) (sIf (tOrB (tV (e2 dLt (eVar 2) (eInt 0))) (tV (e2 dEq (eVar 2) (eA dLenD (eCons (e2 dIxD (eVar 0) (eInt 0)) (eNil)))))) (sRet (eTup (eCons (eVar 0) (eCons (eTup (eCons (eIte (tV (e2 dLt (eVar 2) (eInt 0))) (eStr "left") (eStr "right")) (eCons (eVar 4) (eNil)))) (eNil))))) (sNil)))))))
def S__law_with : ES := sCons (sSet 3 (mF (eInt 0))) (sCons (sFor (iRg1 (eA dLenD (eCons (eVar 0) (eNil)))) (aName 4) (B__law_with_1) [4, 5]) (sRet (eTup (eCons (eVar 0) (eCons (eTup (eCons (eStr "out") (eCons (eVar 2) (eNil)))) (eNil))))))
def F__law_with := runD 6 S__law_with
theorem ok__law_with (T : Txt P w K mg) : FnOk P w K mg base (L2.CX P w) 2 T.f__law_with T.d__law_with ["board", "fault", "column"] (spF w K mg 3 F__law_with) := by
  refine fn_ok (N := N__law_with) (S := S__law_with) T.F__law_with sc__law_with fun cdv A outer s H E hr => ?_
  have tk : Takes (cxOf (L2.CX P w) P w K mg base N__law_with "_law_with" (defScope (topS 53)) T.f__law_with cdv A outer s H E) (WD E) := tk_def
  have po : PassesOwn (model P w) (A.deeper (envOfC "_law_with" (defScope (topS 53)) s.heap.objs.size T.f__law_with cdv)) (envOfC "_law_with" (defScope (topS 53)) s.heap.objs.size T.f__law_with cdv) (cxOf (L2.CX P w) P w K mg base N__law_with "_law_with" (defScope (topS 53)) T.f__law_with cdv A outer s H E).xe := po_def
  exact ess_cons (es_set 3 (Ev.em (ev_int)) sc__law_with.nd)
      (ess_cons (es_for [4, 5] po rfl (ei_range1 T.z_range (ev_lenD T.z_len (ea_cons (ev_var 0) (ea_nil)))) (eg_name 4 sc__law_with.nd)
      (ess_cons (es_set 5 (Ev.em (ev_ixD (hu_room hr) (ev_ixD (hu_room hr) (ev_var 0) (ev_var 4)) (ev_var 2))) sc__law_with.nd)
      (ess_cons (es_if (et_eq (hu_room hr) (ev_var 5) (ev_str))
      (ess_one (es_ret (ev_tup (ea_cons (ev_var 0) (ea_cons (ev_tup (ea_cons (ev_str) (ea_cons (ev_var 4) (ea_cons (ev_var 2) (ea_nil))))) (ea_nil))))))
      (ess_nil))
      (ess_cons (es_set 3 (Ev.em (ev_ite (et_eq (hu_room hr) (ev_var 5) (ev_str)) (ev_var 3) (ev_ite (et_eq (hu_room hr) (ev_var 5) (ev_str)) (ev_int) (ev_ite (et_inD (hu_room hr) (ev_var 5) (ev_str)) (ev_int) (ev_neg (ev_int)))))) sc__law_with.nd)
      (ess_cons (es_set 3 (Ev.em (ev_ite (et_eq (hu_room hr) (ev_var 1) (ev_tup (ea_cons (ev_str) (ea_cons (ev_var 4) (ea_cons (ev_var 2) (ea_nil)))))) (ev_sub (ev_int) (ev_var 3)) (ev_var 3))) sc__law_with.nd)
      (ess_cons (es_if (Ew.et (ew_and (et_inD (hu_room hr) (ev_var 5) (ev_str)) (ew_and1 (et_ne (hu_room hr) (ev_var 1) (ev_tup (ea_cons (ev_str) (ea_cons (ev_var 4) (ea_cons (ev_var 2) (ea_nil)))))))))
      (ess_one (es_set 0 (Ev.em (ev_call (ok__law_turned T) rfl tk (hr.mono (by decide)) T.m__law_turned T.F__law_turned.kp T.b__law_turned (ea_cons (ev_var 0) (ea_cons (ev_ite (et_inD (hu_room hr) (ev_var 5) (ev_str)) ((eo_lst (ea_cons (ev_tup (ea_cons (ev_var 4) (ea_cons (ev_var 2) (ea_nil)))) (ea_nil))).ev) (ev_call (ok__law_group T) rfl tk (hr.mono (by decide)) T.m__law_group T.F__law_group.kp T.b__law_group (ea_cons (ev_var 0) (ea_cons (ev_tup (ea_cons (ev_var 4) (ea_cons (ev_var 2) (ea_nil)))) (ea_nil))))) (ea_nil))))) sc__law_with.nd))
      (ess_nil))
      (ess_cons (es_set 2 (Ev.em (ev_add (ev_var 2) (ev_var 3))) sc__law_with.nd)
      (ess_one (es_if (Ew.et (ew_or (et_lt (hu_room hr) (ev_var 2) (ev_int)) (ew_or1 (et_eq (hu_room hr) (ev_var 2) (ev_lenD T.z_len (ea_cons (ev_ixD (hu_room hr) (ev_var 0) (ev_int)) (ea_nil)))))))
      (ess_one (es_ret (ev_tup (ea_cons (ev_var 0) (ea_cons (ev_tup (ea_cons (ev_ite (et_lt (hu_room hr) (ev_var 2) (ev_int)) (ev_str) (ev_str)) (ea_cons (ev_var 4) (ea_nil)))) (ea_nil))))))
      (ess_nil))))))))))
      (ess_one (es_ret (ev_tup (ea_cons (ev_var 0) (ea_cons (ev_tup (ea_cons (ev_str) (ea_cons (ev_var 2) (ea_nil)))) (ea_nil)))))))
/-! ### _law_ends : 0 board, 1 fault, 2 columns, 3 ends, 4 column, 5 end -/
abbrev N__law_ends : List Str := ["board", "fault", "columns", "ends", "column", "end"]
theorem sc__law_ends : FnScope N__law_ends ["board", "fault", "columns"] (defScope (topS 54)) := ⟨rfl, rfl, rfl, by decide +kernel, rfl, by decide +kernel, by decide +kernel⟩
def B__law_ends_1 : ES := sCons (sAsg (eCall F__law_with (eCons (eVar 0) (eCons (eVar 1) (eCons (eVar 4) (eNil))))) (aTup (aCons (aName 0) (aCons (aName 5) (aNil))))) (sApp 3 (eVar 5))
def S__law_ends : ES := sCons (sSet 3 (mO (eLst (eNil)))) (sCons (sFor (iSeq (eVar 2)) (aName 4) (B__law_ends_1) [2, 4, 5]) (sFrz 3 (sRet (eA dTuple (eCons (eVar 3) (eNil))))))
def F__law_ends := runD 6 S__law_ends
theorem ok__law_ends (T : Txt P w K mg) : FnOk P w K mg base (L2.CX P w) 3 T.f__law_ends T.d__law_ends ["board", "fault", "columns"] (spF w K mg 3 F__law_ends) := by
  refine fn_ok (N := N__law_ends) (S := S__law_ends) T.F__law_ends sc__law_ends fun cdv A outer s H E hr => ?_
  have tk : Takes (cxOf (L2.CX P w) P w K mg base N__law_ends "_law_ends" (defScope (topS 54)) T.f__law_ends cdv A outer s H E) (WD E) := tk_def
  have po : PassesOwn (model P w) (A.deeper (envOfC "_law_ends" (defScope (topS 54)) s.heap.objs.size T.f__law_ends cdv)) (envOfC "_law_ends" (defScope (topS 54)) s.heap.objs.size T.f__law_ends cdv) (cxOf (L2.CX P w) P w K mg base N__law_ends "_law_ends" (defScope (topS 54)) T.f__law_ends cdv A outer s H E).xe := po_def
  exact ess_cons (es_set 3 (Eo.em (eo_lst (ea_nil))) sc__law_ends.nd)
      (ess_cons (es_for [2, 4, 5] po rfl (ei_seq (ev_var 2)) (eg_name 4 sc__law_ends.nd)
      (ess_cons (es_asg (ev_call (ok__law_with T) rfl tk (hr.mono (by decide)) T.m__law_with T.F__law_with.kp T.b__law_with (ea_cons (ev_var 0) (ea_cons (ev_var 1) (ea_cons (ev_var 4) (ea_nil))))) (eg_tup rfl (egs_cons (eg_name 0 sc__law_ends.nd) (egs_cons (eg_name 5 sc__law_ends.nd) (egs_nil)))))
      (ess_one (es_app 3 (ev_var 5)))))
      (ess_one (es_frz 3 (es_ret (ev_tuple T.z_tuple (ea_cons (ev_var 3) (ea_nil)))))))
/-! ### _law_error : 0 call, 1 one, 2 two, 3 three -/
abbrev N__law_error : List Str := ["call", "one", "two", "three"]
theorem sc__law_error : FnScope N__law_error ["call", "one", "two", "three"] (defScope (topS 55)) := ⟨rfl, rfl, rfl, by decide +kernel, rfl, by decide +kernel, by decide +kernel⟩
def S__law_error : ES := sCons (sTry (sIf (tV (e2 dEq (eVar 0) (eInt 0))) (sExpr (eCall F_faults_of (eCons (eVar 1) (eNil)))) (sIf (tV (e2 dEq (eVar 0) (eInt 1))) (sExpr (eCall F_hidden (eCons (eVar 1) (eCons (eVar 3) (eNil))))) (sIf (tV (e2 dEq (eVar 0) (eInt 2))) (sExpr (eCall F_alike (eCons (eVar 1) (eCons (eVar 3) (eNil))))) (sIf (tV (e2 dEq (eVar 0) (eInt 3))) (sExpr (eCall F_ends_with (eCons (eVar 1) (eCons (eVar 2) (eCons (eVar 3) (eNil)))))) (sIf (tV (e2 dEq (eVar 0) (eInt 4))) (sExpr (eCall F_shows (eCons (eVar 1) (eCons (eVar 2) (eCons (eVar 3) (eNil)))))) (sExpr (eCall F_drop_with (eCons (eVar 1) (eCons (eVar 2) (eCons (eVar 3) (eNil))))))))))) [([("BadBoard", true), ("BadColumn", false), ("BadColumns", false), ("BadFault", false)], sRet (eStr "board")), ([("BadBoard", false), ("BadColumn", false), ("BadColumns", false), ("BadFault", true)], sRet (eStr "fault")), ([("BadBoard", false), ("BadColumn", true), ("BadColumns", false), ("BadFault", false)], sRet (eStr "column")), ([("BadBoard", false), ("BadColumn", false), ("BadColumns", true), ("BadFault", false)], sRet (eStr "columns"))]) (sRet (eStr "none"))
def F__law_error := runD 4 S__law_error
theorem ok__law_error (T : Txt P w K mg) : FnOk P w K mg base (L2.CX P w) 8 T.f__law_error T.d__law_error ["call", "one", "two", "three"] (spF w K mg 4 F__law_error) := by
  refine fn_ok (N := N__law_error) (S := S__law_error) T.F__law_error sc__law_error fun cdv A outer s H E hr => ?_
  have tk : Takes (cxOf (L2.CX P w) P w K mg base N__law_error "_law_error" (defScope (topS 55)) T.f__law_error cdv A outer s H E) (WD E) := tk_def
  have po : PassesOwn (model P w) (A.deeper (envOfC "_law_error" (defScope (topS 55)) s.heap.objs.size T.f__law_error cdv)) (envOfC "_law_error" (defScope (topS 55)) s.heap.objs.size T.f__law_error cdv) (cxOf (L2.CX P w) P w K mg base N__law_error "_law_error" (defScope (topS 55)) T.f__law_error cdv A outer s H E).xe := po_def
  exact ess_cons (es_try rfl rfl tk (fun W1 pn xe tk po => ess_one (es_if (et_eq (hu_room hr) (ev_var 0) (ev_int))
      (ess_one (es_expr (ev_call (ok_faults_of T) rfl tk (hr.mono (by decide)) T.m_faults_of T.F_faults_of.kp T.b_faults_of (ea_cons (ev_var 1) (ea_nil)))))
      (ess_one (es_if (et_eq (hu_room hr) (ev_var 0) (ev_int))
      (ess_one (es_expr (ev_call (ok_hidden T) rfl tk (hr.mono (by decide)) T.m_hidden T.F_hidden.kp T.b_hidden (ea_cons (ev_var 1) (ea_cons (ev_var 3) (ea_nil))))))
      (ess_one (es_if (et_eq (hu_room hr) (ev_var 0) (ev_int))
      (ess_one (es_expr (ev_call (ok_alike T) rfl tk (hr.mono (by decide)) T.m_alike T.F_alike.kp T.b_alike (ea_cons (ev_var 1) (ea_cons (ev_var 3) (ea_nil))))))
      (ess_one (es_if (et_eq (hu_room hr) (ev_var 0) (ev_int))
      (ess_one (es_expr (ev_call (ok_ends_with T) rfl tk (hr.mono (by decide)) T.m_ends_with T.F_ends_with.kp T.b_ends_with (ea_cons (ev_var 1) (ea_cons (ev_var 2) (ea_cons (ev_var 3) (ea_nil)))))))
      (ess_one (es_if (et_eq (hu_room hr) (ev_var 0) (ev_int))
      (ess_one (es_expr (ev_call (ok_shows T) rfl tk (hr.mono (by decide)) T.m_shows T.F_shows.kp T.b_shows (ea_cons (ev_var 1) (ea_cons (ev_var 2) (ea_cons (ev_var 3) (ea_nil)))))))
      (ess_one (es_expr (ev_call (ok_drop_with T) rfl tk (hr.mono (by decide)) T.m_drop_with T.F_drop_with.kp T.b_drop_with (ea_cons (ev_var 1) (ea_cons (ev_var 2) (ea_cons (ev_var 3) (ea_nil))))))))))))))))) (.cons (tab := [("BadBoard", true), ("BadColumn", false), ("BadColumns", false), ("BadFault", false)]) ⟨rfl, by decide, .inl T.g_BadBoard⟩ (tab_cons T.g_BadBoard T.e_BadBoard_BadBoard (tab_cons T.g_BadColumn T.e_BadColumn_BadBoard (tab_cons T.g_BadColumns T.e_BadColumns_BadBoard (tab_cons T.g_BadFault T.e_BadFault_BadBoard tab_nil)))) (fun a pn => ess_one (es_ret (ev_str))) (.cons (tab := [("BadBoard", false), ("BadColumn", false), ("BadColumns", false), ("BadFault", true)]) ⟨rfl, by decide, .inl T.g_BadFault⟩ (tab_cons T.g_BadBoard T.e_BadBoard_BadFault (tab_cons T.g_BadColumn T.e_BadColumn_BadFault (tab_cons T.g_BadColumns T.e_BadColumns_BadFault (tab_cons T.g_BadFault T.e_BadFault_BadFault tab_nil)))) (fun a pn => ess_one (es_ret (ev_str))) (.cons (tab := [("BadBoard", false), ("BadColumn", true), ("BadColumns", false), ("BadFault", false)]) ⟨rfl, by decide, .inl T.g_BadColumn⟩ (tab_cons T.g_BadBoard T.e_BadBoard_BadColumn (tab_cons T.g_BadColumn T.e_BadColumn_BadColumn (tab_cons T.g_BadColumns T.e_BadColumns_BadColumn (tab_cons T.g_BadFault T.e_BadFault_BadColumn tab_nil)))) (fun a pn => ess_one (es_ret (ev_str))) (.cons (tab := [("BadBoard", false), ("BadColumn", false), ("BadColumns", true), ("BadFault", false)]) ⟨rfl, by decide, .inl T.g_BadColumns⟩ (tab_cons T.g_BadBoard T.e_BadBoard_BadColumns (tab_cons T.g_BadColumn T.e_BadColumn_BadColumns (tab_cons T.g_BadColumns T.e_BadColumns_BadColumns (tab_cons T.g_BadFault T.e_BadFault_BadColumns tab_nil)))) (fun a pn => ess_one (es_ret (ev_str))) (.nil))))))
      (ess_one (es_ret (ev_str)))
/-! ### law : 0 script, 1 draws, 2 board, 3 wide, 4 places, 5 faults, 6 turn, 7 fault, 8 wrong, 9 columns, 10 right, 11 rows, 12 n, 13 place, 14 column, 15 row, 16 k, 17 call, 18 j -/
abbrev N_law : List Str := ["script", "draws", "board", "wide", "places", "faults", "turn", "fault", "wrong", "columns", "right", "rows", "n", "place", "column", "row", "k", "call", "j"]
theorem sc_law : FnScope N_law ["script"] (defScope (topS 56)) := ⟨rfl, rfl, rfl, by decide +kernel, rfl, by decide +kernel, by decide +kernel⟩
def B_law_1 : ES := sCons (sSet 14 (mF (e2 dMod (eA dInt (eCons (e2 dIxD (eVar 1) (e2 dAdd (eInt 54) (eVar 6))) (eNil))) (eVar 3)))) (sIf (tV (e2 dNe (eCall F_drop_with (eCons (eVar 2) (eCons (eVar 7) (eCons (eVar 14) (eNil))))) (eCall F__law_with (eCons (eVar 2) (eCons (eVar 7) (eCons (eVar 14) (eNil))))))) (sRet (eBool false)) (sNil))
def B_law_2 : ES := sCons (sSet 9 (mF (eA dTuple (eCons (eComp (iRg1 (e2 dMod (eA dInt (eCons (e2 dIxD (eVar 1) (e2 dAdd (eInt 51) (eVar 6))) (eNil))) (eInt 9))) (aName 16) (tTrue) (e2 dMod (eA dInt (eCons (e2 dIxD (eVar 1) (e2 dAdd (e2 dAdd (eInt 27) (e2 dMul (eInt 8) (eVar 6))) (eVar 16))) (eNil))) (eVar 3)) [16]) (eNil))))) (sCons (sSet 10 (mF (eCall F__law_ends (eCons (eVar 2) (eCons (eNone) (eCons (eVar 9) (eNil))))))) (sCons (sSet 11 (mF (eComp (iSeq (eVar 5)) (aName 7) (tTrue) (eCall F__law_ends (eCons (eVar 2) (eCons (eVar 7) (eCons (eVar 9) (eNil))))) [7]))) (sCons (sIf (tOrB (tV (e2 dNe (eComp (iSeq (eVar 5)) (aName 7) (tTrue) (eCall F_ends_with (eCons (eVar 2) (eCons (eVar 7) (eCons (eVar 9) (eNil))))) [7]) (eVar 11))) (tV (e2 dNe (eComp (iSeq (eVar 5)) (aName 7) (tTrue) (eCall F_shows (eCons (eVar 2) (eCons (eVar 7) (eCons (eVar 9) (eNil))))) [7]) (eComp (iSeq (eVar 11)) (aName 15) (tTrue) (e2 dNe (eVar 15) (eVar 10)) [15])))) (sRet (eBool false)) (sNil)) (sCons (sIf (tV (e2 dNe (eCall F_hidden (eCons (eVar 2) (eCons (eVar 9) (eNil)))) (eA dTuple (eCons (eComp (iRg1 (eA dLenD (eCons (eVar 5) (eNil)))) (aName 16) (tV (e2 dEq (e2 dIxD (eVar 11) (eVar 16)) (eVar 10))) (e2 dIxD (eVar 5) (eVar 16)) [16]) (eNil))))) (sRet (eBool false)) (sNil)) (sCons (sIf (tV (e2 dNe (eCall F_alike (eCons (eVar 2) (eCons (eVar 9) (eNil)))) (eA dTuple (eCons (eSortSet (eComp (iSeq (eVar 11)) (aName 15) (tTrue) (eA dTuple (eCons (eComp (iRg1 (eA dLenD (eCons (eVar 5) (eNil)))) (aName 18) (tV (e2 dEq (e2 dIxD (eVar 11) (eVar 18)) (eVar 15))) (e2 dIxD (eVar 5) (eVar 18)) [18]) (eNil))) [15])) (eNil))))) (sRet (eBool false)) (sNil)) (sFor (iSeq (eCut (eVar 5) (pNone) (pSome (eInt 8)))) (aName 7) (B_law_1) [0, 4, 7, 8, 9, 10, 11, 12, 13, 14, 15, 16, 17, 18]))))))
def B_law_3 : ES := sIf (tV (e2 dNe (e2 dAdd (eComp (iRg1 (eInt 5)) (aName 17) (tTrue) (eCall F__law_error (eCons (eVar 17) (eCons (eVar 8) (eCons (eVar 7) (eCons (eTup (eNil)) (eNil)))))) [17]) (eLst (eCons (eCall F__law_error (eCons (eInt 5) (eCons (eVar 8) (eCons (eVar 7) (eCons (eInt 0) (eNil)))))) (eNil)))) (e2 dMul (eLst (eCons (eStr "board") (eNil))) (eInt 6)))) (sRet (eBool false)) (sNil)
def B_law_4 : ES := sIf (tV (e2 dNe (e2 dAdd (eComp (iSeq (eTup (eCons (eInt 3) (eCons (eInt 4) (eNil))))) (aName 17) (tTrue) (eCall F__law_error (eCons (eVar 17) (eCons (eVar 2) (eCons (eVar 8) (eCons (eTup (eNil)) (eNil)))))) [17]) (eLst (eCons (eCall F__law_error (eCons (eInt 5) (eCons (eVar 2) (eCons (eVar 8) (eCons (eInt 0) (eNil)))))) (eNil)))) (e2 dMul (eLst (eCons (eStr "fault") (eNil))) (eInt 3)))) (sRet (eBool false)) (sNil)
def B_law_5 : ES := sIf (tOrB (tV (e2 dNe (eComp (iSeq (eTup (eCons (eInt 1) (eCons (eInt 2) (eNil))))) (aName 17) (tTrue) (eCall F__law_error (eCons (eVar 17) (eCons (eVar 2) (eCons (eVar 7) (eCons (eVar 8) (eNil)))))) [17]) (e2 dMul (eLst (eCons (eStr "columns") (eNil))) (eInt 2)))) (tAndB (tV (e1 dNotN (eVar 7))) (tV (e2 dNe (eComp (iSeq (eTup (eCons (eInt 3) (eCons (eInt 4) (eNil))))) (aName 17) (tTrue) (eCall F__law_error (eCons (eVar 17) (eCons (eVar 2) (eCons (eVar 7) (eCons (eVar 8) (eNil)))))) [17]) (e2 dMul (eLst (eCons (eStr "columns") (eNil))) (eInt 2)))))) (sRet (eBool false)) (sNil)
def S_law : ES := sCons (sSet 1 (mF (eCallS 0 F__law_draws (eCons (eInt 60) (eNil))))) (sCons (sSet 2 (mF (eCall F__law_board (eCons (eVar 1) (eCons (e2 dIxD (eLst (eCons (eStr ".\\/LR<>X#") (eCons (eStr "LR..X\\/") (eCons (eStr "<>\\.L#") (eCons (eStr ".\\/X") (eNil)))))) (e2 dMod (eA dInt (eCons (e2 dIxD (eVar 1) (eInt 26)) (eNil))) (eInt 4))) (eNil)))))) (sCons (sSet 3 (mF (eA dLenD (eCons (e2 dIxD (eVar 2) (eInt 0)) (eNil))))) (sCons (sSet 4 (mF (eComp (iRg1 (eInt 36)) (aName 12) (tTrue) (eTup (eCons (e2 dFdiv (eVar 12) (eInt 6)) (eCons (e2 dMod (eVar 12) (eInt 6)) (eNil)))) [12]))) (sCons (sSet 4 (mF (eComp (iSeq (eVar 4)) (aName 13) (tAndB (tV (e2 dLt (e2 dIxD (eVar 13) (eInt 0)) (eA dLenD (eCons (eVar 2) (eNil))))) (tV (e2 dLt (e2 dIxD (eVar 13) (eInt 1)) (eVar 3)))) (eVar 13) [13]))) (sCons (sSet 5 (mF (e2 dAdd (eComp (iSeq (eVar 4)) (aTup (aCons (aName 15) (aCons (aName 16) (aNil)))) (tV (e2 dInD (e2 dIxD (e2 dIxD (eVar 2) (eVar 15)) (eVar 16)) (eStr "\\/"))) (eTup (eCons (eStr "bent") (eCons (eVar 15) (eCons (eVar 16) (eNil))))) [15, 16]) (eComp (iSeq (eVar 4)) (aTup (aCons (aName 15) (aCons (aName 16) (aNil)))) (tV (e2 dInD (e2 dIxD (e2 dIxD (eVar 2) (eVar 15)) (eVar 16)) (eStr "LR"))) (eTup (eCons (eStr "stuck") (eCons (eVar 15) (eCons (eVar 16) (eNil))))) [15, 16])))) (sCons (sIf (tV (e2 dNe (eCall F_faults_of (eCons (eVar 2) (eNil))) (eA dTuple (eCons (eVar 5) (eNil))))) (sRet (eBool false)) (sNil)) (sCons (sFor (iRg1 (eInt 3)) (aName 6) (B_law_2) [0, 4, 6, 7, 8, 9, 10, 11, 12, 13, 14, 15, 16, 17, 18]) (sCons (sSet 7 (mF (eIte (tV (e2 dGt (eA dLenD (eCons (eVar 5) (eNil))) (eInt 0))) (e2 dIxD (eVar 5) (eInt 0)) (eNone)))) (sCons (sFor (iSeq (eTup (eCons (eNone) (eCons (eTup (eNil)) (eCons (eA dListD (eCons (eVar 2) (eNil))) (eCons (eTup (eCons (eStr "x") (eNil))) (eNil))))))) (aName 8) (B_law_3) [0, 1, 4, 5, 6, 8, 9, 10, 11, 12, 13, 14, 15, 16, 17, 18]) (sCons (sFor (iSeq (eTup (eCons (eNone) (eCons (eTup (eNil)) (eCons (eTup (eCons (eStr "bent") (eCons (eInt 0) (eNil)))) (eCons (eTup (eCons (eStr "bent") (eCons (eInt 9) (eCons (eInt 9) (eNil))))) (eCons (eTup (eCons (eStr "up") (eCons (eInt 0) (eCons (eInt 0) (eNil))))) (eCons (eLst (eCons (eStr "bent") (eCons (eInt 0) (eCons (eInt 0) (eNil))))) (eCons (eTup (eCons (eStr "stuck") (eCons (eBool true) (eCons (eInt 0) (eNil))))) (eCons (eInt 5) (eNil))))))))))) (aName 8) (B_law_4) [0, 1, 4, 5, 6, 8, 9, 10, 11, 12, 13, 14, 15, 16, 17, 18]) (sCons (sFor (iSeq (eTup (eCons (eNone) (eCons (eLst (eCons (eInt 0) (eNil))) (eCons (eTup (eCons (eVar 3) (eNil))) (eCons (eTup (eCons (e1 dNeg (eInt 1)) (eNil))) (eCons (eTup (eCons (eBool true) (eNil))) (eCons (e2 dMulT (eTup (eCons (eInt 0) (eNil))) (eInt 201)) (eNil))))))))) (aName 8) (B_law_5) [0, 1, 4, 5, 6, 8, 9, 10, 11, 12, 13, 14, 15, 16, 17, 18]) (sCons (sIf (tAndB (tV (e1 dNotN (eVar 7))) (tV (e2 dNe (eComp (iSeq (eTup (eCons (e1 dNeg (eInt 1)) (eCons (eVar 3) (eCons (eBool true) (eCons (eNone) (eNil))))))) (aName 8) (tTrue) (eCall F__law_error (eCons (eInt 5) (eCons (eVar 2) (eCons (eVar 7) (eCons (eVar 8) (eNil)))))) [8]) (e2 dMul (eLst (eCons (eStr "column") (eNil))) (eInt 4))))) (sRet (eBool false)) (sNil)) (sRet (eAnd (e2 dEq (eCall F_drop_with (eCons (eTup (eCons (eStr "L.") (eNil))) (eCons (eTup (eCons (eStr "stuck") (eCons (eInt 0) (eCons (eInt 0) (eNil))))) (eCons (eInt 0) (eNil))))) (eTup (eCons (eTup (eCons (eStr "L.") (eNil))) (eCons (eTup (eCons (eStr "left") (eCons (eInt 0) (eNil)))) (eNil))))) (eAnd (e2 dEq (eCall F_drop_with (eCons (eTup (eCons (eStr "/.") (eNil))) (eCons (eTup (eCons (eStr "bent") (eCons (eInt 0) (eCons (eInt 0) (eNil))))) (eCons (eInt 0) (eNil))))) (eTup (eCons (eTup (eCons (eStr "/.") (eNil))) (eCons (eTup (eCons (eStr "out") (eCons (eInt 1) (eNil)))) (eNil))))) (e2 dEq (eCall F_hidden (eCons (eTup (eCons (eStr ".L") (eNil))) (eCons (eTup (eCons (eInt 0) (eCons (eInt 0) (eNil)))) (eNil)))) (eTup (eCons (eTup (eCons (eStr "stuck") (eCons (eInt 0) (eCons (eInt 1) (eNil))))) (eNil)))))))))))))))))))
def F_law := runS 19 S_law
theorem ok_law (T : Txt P w K mg) : FnOk P w K mg base (L2.CX P w) 9 T.f_law T.d_law ["script"] (spS w K mg 1 F_law) := by
  refine fn_okS (N := N_law) (S := S_law) T.F_law sc_law fun cdv A outer s H E hr => ?_
  have tk : Takes (cxOf (L2.CX P w) P w K mg base N_law "law" (defScope (topS 56)) T.f_law cdv A outer s H E) (WD E) := tk_def
  have po : PassesOwn (model P w) (A.deeper (envOfC "law" (defScope (topS 56)) s.heap.objs.size T.f_law cdv)) (envOfC "law" (defScope (topS 56)) s.heap.objs.size T.f_law cdv) (cxOf (L2.CX P w) P w K mg base N_law "law" (defScope (topS 56)) T.f_law cdv A outer s H E).xe := po_def
  exact ess_cons (es_set 1 (Ev.em (ev_callS 0 (ok__law_draws T) rfl tk (hr.mono (by decide)) T.m__law_draws T.F__law_draws.kp T.b__law_draws (ea_cons (ev_int) (ea_nil)))) sc_law.nd)
      (ess_cons (es_set 2 (Ev.em (ev_call (ok__law_board T) rfl tk (hr.mono (by decide)) T.m__law_board T.F__law_board.kp T.b__law_board (ea_cons (ev_var 1) (ea_cons (ev_ixD (hu_room hr) ((eo_lst (ea_cons (ev_str) (ea_cons (ev_str) (ea_cons (ev_str) (ea_cons (ev_str) (ea_nil)))))).ev) (ev_mod (ev_intc T.z_int (ea_cons (ev_ixD (hu_room hr) (ev_var 1) (ev_int)) (ea_nil))) (ev_int))) (ea_nil))))) sc_law.nd)
      (ess_cons (es_set 3 (Ev.em (ev_lenD T.z_len (ea_cons (ev_ixD (hu_room hr) (ev_var 2) (ev_int)) (ea_nil)))) sc_law.nd)
      (ess_cons (es_setF (es_setLc (own := [("n", 12)]) rfl sc_law.nd rfl rfl (sw_true rfl rfl rfl (by decide +kernel)) (ei_range1 T.z_range (ev_int)) (blkOk_by (N := N_law) (sc := defScope (topS 56)) (by decide +kernel)) (fun _ _ _ _ _ => eg_name 12 sc_law.nd) (by decide) (fun _ _ _ _ _ => ets_nil) (fun _ _ _ _ _ => ev_tup (ea_cons (ev_fdiv (ev_var 12) (ev_int)) (ea_cons (ev_mod (ev_var 12) (ev_int)) (ea_nil))))))
      (ess_cons (es_setF (es_setLc (own := [("place", 13)]) rfl sc_law.nd rfl rfl (sw_true rfl rfl rfl (by decide +kernel)) (ei_seq (ev_var 4)) (blkOk_by (N := N_law) (sc := defScope (topS 56)) (by decide +kernel)) (fun _ _ _ _ _ => eg_name 13 sc_law.nd) (by decide) (fun _ _ _ _ _ => ets_one (Ew.et (ew_and (et_lt (hu_room hr) (ev_ixD (hu_room hr) (ev_var 13) (ev_int)) (ev_lenD T.z_len (ea_cons (ev_var 2) (ea_nil)))) (ew_and1 (et_lt (hu_room hr) (ev_ixD (hu_room hr) (ev_var 13) (ev_int)) (ev_var 3)))))) (fun _ _ _ _ _ => ev_var 13)))
      (ess_cons (es_set 5 (Ev.em (ev_add ((eo_comp (own := [("row", 15), ("k", 16)]) rfl sc_law.nd (ei_seq (ev_var 4)) (blkOk_by (N := N_law) (sc := defScope (topS 56)) (by decide +kernel)) (fun _ _ _ _ _ => eg_tup rfl (egs_cons (eg_name 15 sc_law.nd) (egs_cons (eg_name 16 sc_law.nd) (egs_nil)))) (by decide) (fun _ _ _ _ _ => ets_one (et_inD (hu_room hr) (ev_ixD (hu_room hr) (ev_ixD (hu_room hr) (ev_var 2) (ev_var 15)) (ev_var 16)) (ev_str))) (fun _ _ _ _ _ => ev_tup (ea_cons (ev_str) (ea_cons (ev_var 15) (ea_cons (ev_var 16) (ea_nil)))))).ev) ((eo_comp (own := [("row", 15), ("k", 16)]) rfl sc_law.nd (ei_seq (ev_var 4)) (blkOk_by (N := N_law) (sc := defScope (topS 56)) (by decide +kernel)) (fun _ _ _ _ _ => eg_tup rfl (egs_cons (eg_name 15 sc_law.nd) (egs_cons (eg_name 16 sc_law.nd) (egs_nil)))) (by decide) (fun _ _ _ _ _ => ets_one (et_inD (hu_room hr) (ev_ixD (hu_room hr) (ev_ixD (hu_room hr) (ev_var 2) (ev_var 15)) (ev_var 16)) (ev_str))) (fun _ _ _ _ _ => ev_tup (ea_cons (ev_str) (ea_cons (ev_var 15) (ea_cons (ev_var 16) (ea_nil)))))).ev))) sc_law.nd)
      (ess_cons (es_if (et_ne (hu_room hr) (ev_call (ok_faults_of T) rfl tk (hr.mono (by decide)) T.m_faults_of T.F_faults_of.kp T.b_faults_of (ea_cons (ev_var 2) (ea_nil))) (ev_tuple T.z_tuple (ea_cons (ev_var 5) (ea_nil))))
      (ess_one (es_ret (ev_bool)))
      (ess_nil))
      (ess_cons (es_for [0, 4, 6, 7, 8, 9, 10, 11, 12, 13, 14, 15, 16, 17, 18] po rfl (ei_range1 T.z_range (ev_int)) (eg_name 6 sc_law.nd)
      (ess_cons (es_set 9 (Ev.em (ev_tuple T.z_tuple (ea_cons ((eo_comp (own := [("k", 16)]) rfl sc_law.nd (ei_range1 T.z_range (ev_mod (ev_intc T.z_int (ea_cons (ev_ixD (hu_room hr) (ev_var 1) (ev_add (ev_int) (ev_var 6))) (ea_nil))) (ev_int))) (blkOk_by (N := N_law) (sc := defScope (topS 56)) (by decide +kernel)) (fun _ _ _ _ _ => eg_name 16 sc_law.nd) (by decide) (fun _ _ _ _ _ => ets_nil) (fun _ _ _ _ _ => ev_mod (ev_intc T.z_int (ea_cons (ev_ixD (hu_room hr) (ev_var 1) (ev_add (ev_add (ev_int) (ev_mul (ev_int) (ev_var 6))) (ev_var 16))) (ea_nil))) (ev_var 3))).ev) (ea_nil)))) sc_law.nd)
      (ess_cons (es_set 10 (Ev.em (ev_call (ok__law_ends T) rfl tk (hr.mono (by decide)) T.m__law_ends T.F__law_ends.kp T.b__law_ends (ea_cons (ev_var 2) (ea_cons (ev_none) (ea_cons (ev_var 9) (ea_nil)))))) sc_law.nd)
      (ess_cons (es_set 11 (Ev.em ((eo_comp (own := [("fault", 7)]) rfl sc_law.nd (ei_seq (ev_var 5)) (blkOk_by (N := N_law) (sc := defScope (topS 56)) (by decide +kernel)) (fun _ _ _ _ _ => eg_name 7 sc_law.nd) (by decide) (fun _ _ _ _ _ => ets_nil) (fun _ _ _ _ _ => ev_call (ok__law_ends T) rfl takes0 (hr.mono (by decide)) T.m__law_ends T.F__law_ends.kp T.b__law_ends (ea_cons (ev_var 2) (ea_cons (ev_var 7) (ea_cons (ev_var 9) (ea_nil)))))).ev)) sc_law.nd)
      (ess_cons (es_if (Ew.et (ew_or (et_ne (hu_room hr) ((eo_comp (own := [("fault", 7)]) rfl sc_law.nd (ei_seq (ev_var 5)) (blkOk_by (N := N_law) (sc := defScope (topS 56)) (by decide +kernel)) (fun _ _ _ _ _ => eg_name 7 sc_law.nd) (by decide) (fun _ _ _ _ _ => ets_nil) (fun _ _ _ _ _ => ev_call (ok_ends_with T) rfl takes0 (hr.mono (by decide)) T.m_ends_with T.F_ends_with.kp T.b_ends_with (ea_cons (ev_var 2) (ea_cons (ev_var 7) (ea_cons (ev_var 9) (ea_nil)))))).ev) (ev_var 11)) (ew_or1 (et_ne (hu_room hr) ((eo_comp (own := [("fault", 7)]) rfl sc_law.nd (ei_seq (ev_var 5)) (blkOk_by (N := N_law) (sc := defScope (topS 56)) (by decide +kernel)) (fun _ _ _ _ _ => eg_name 7 sc_law.nd) (by decide) (fun _ _ _ _ _ => ets_nil) (fun _ _ _ _ _ => ev_call (ok_shows T) rfl takes0 (hr.mono (by decide)) T.m_shows T.F_shows.kp T.b_shows (ea_cons (ev_var 2) (ea_cons (ev_var 7) (ea_cons (ev_var 9) (ea_nil)))))).ev) ((eo_comp (own := [("row", 15)]) rfl sc_law.nd (ei_seq (ev_var 11)) (blkOk_by (N := N_law) (sc := defScope (topS 56)) (by decide +kernel)) (fun _ _ _ _ _ => eg_name 15 sc_law.nd) (by decide) (fun _ _ _ _ _ => ets_nil) (fun _ _ _ _ _ => ev_ne (hu_room hr) (ev_var 15) (ev_var 10))).ev)))))
      (ess_one (es_ret (ev_bool)))
      (ess_nil))
      (ess_cons (es_if (et_ne (hu_room hr) (ev_call (ok_hidden T) rfl tk (hr.mono (by decide)) T.m_hidden T.F_hidden.kp T.b_hidden (ea_cons (ev_var 2) (ea_cons (ev_var 9) (ea_nil)))) (ev_tuple T.z_tuple (ea_cons ((eo_comp (own := [("k", 16)]) rfl sc_law.nd (ei_range1 T.z_range (ev_lenD T.z_len (ea_cons (ev_var 5) (ea_nil)))) (blkOk_by (N := N_law) (sc := defScope (topS 56)) (by decide +kernel)) (fun _ _ _ _ _ => eg_name 16 sc_law.nd) (by decide) (fun _ _ _ _ _ => ets_one (et_eq (hu_room hr) (ev_ixD (hu_room hr) (ev_var 11) (ev_var 16)) (ev_var 10))) (fun _ _ _ _ _ => ev_ixD (hu_room hr) (ev_var 5) (ev_var 16))).ev) (ea_nil))))
      (ess_one (es_ret (ev_bool)))
      (ess_nil))
      (ess_cons (es_if (et_ne (hu_room hr) (ev_call (ok_alike T) rfl tk (hr.mono (by decide)) T.m_alike T.F_alike.kp T.b_alike (ea_cons (ev_var 2) (ea_cons (ev_var 9) (ea_nil)))) (ev_tuple T.z_tuple (ea_cons ((eo_sortSet (hu_room hr) rfl T.z_sorted T.z_set ((eo_comp (own := [("row", 15)]) rfl sc_law.nd (ei_seq (ev_var 11)) (blkOk_by (N := N_law) (sc := defScope (topS 56)) (by decide +kernel)) (fun _ _ _ _ _ => eg_name 15 sc_law.nd) (by decide) (fun _ _ _ _ _ => ets_nil) (fun _ _ _ _ _ => ev_tuple T.z_tuple (ea_cons ((eo_comp (own := [("j", 18)]) rfl sc_law.nd (ei_range1 T.z_range (ev_lenD T.z_len (ea_cons (ev_var 5) (ea_nil)))) (blkOk_by (by kernel_rfl)) (fun _ _ _ _ _ => eg_name 18 sc_law.nd) (by decide) (fun _ _ _ _ _ => ets_one (et_eq (hu_room hr) (ev_ixD (hu_room hr) (ev_var 11) (ev_var 18)) (ev_var 15))) (fun _ _ _ _ _ => ev_ixD (hu_room hr) (ev_var 5) (ev_var 18))).ev) (ea_nil)))).ev)).ev) (ea_nil))))
      (ess_one (es_ret (ev_bool)))
      (ess_nil))
      (ess_one (es_for [0, 4, 7, 8, 9, 10, 11, 12, 13, 14, 15, 16, 17, 18] po rfl (ei_seq (ev_cut (ev_var 5) (ep_none) (ep_some (ev_int)))) (eg_name 7 sc_law.nd)
      (ess_cons (es_set 14 (Ev.em (ev_mod (ev_intc T.z_int (ea_cons (ev_ixD (hu_room hr) (ev_var 1) (ev_add (ev_int) (ev_var 6))) (ea_nil))) (ev_var 3))) sc_law.nd)
      (ess_one (es_if (et_ne (hu_room hr) (ev_call (ok_drop_with T) rfl tk (hr.mono (by decide)) T.m_drop_with T.F_drop_with.kp T.b_drop_with (ea_cons (ev_var 2) (ea_cons (ev_var 7) (ea_cons (ev_var 14) (ea_nil))))) (ev_call (ok__law_with T) rfl tk (hr.mono (by decide)) T.m__law_with T.F__law_with.kp T.b__law_with (ea_cons (ev_var 2) (ea_cons (ev_var 7) (ea_cons (ev_var 14) (ea_nil))))))
      (ess_one (es_ret (ev_bool)))
      (ess_nil)))))))))))))
      (ess_cons (es_set 7 (Ev.em (ev_ite (et_gt (ev_lenD T.z_len (ea_cons (ev_var 5) (ea_nil))) (ev_int)) (ev_ixD (hu_room hr) (ev_var 5) (ev_int)) (ev_none))) sc_law.nd)
      (ess_cons (es_for [0, 1, 4, 5, 6, 8, 9, 10, 11, 12, 13, 14, 15, 16, 17, 18] po rfl (ei_seq (ev_tup (ea_cons (ev_none) (ea_cons (ev_tup (ea_nil)) (ea_cons ((eo_listD rfl T.z_list (ea_cons (ev_var 2) (ea_nil))).ev) (ea_cons (ev_tup (ea_cons (ev_str) (ea_nil))) (ea_nil))))))) (eg_name 8 sc_law.nd)
      (ess_one (es_if (et_ne (hu_room hr) (ev_add ((eo_comp (own := [("call", 17)]) rfl sc_law.nd (ei_range1 T.z_range (ev_int)) (blkOk_by (N := N_law) (sc := defScope (topS 56)) (by decide +kernel)) (fun _ _ _ _ _ => eg_name 17 sc_law.nd) (by decide) (fun _ _ _ _ _ => ets_nil) (fun _ _ _ _ _ => ev_call (ok__law_error T) rfl takes0 (hr.mono (by decide)) T.m__law_error T.F__law_error.kp T.b__law_error (ea_cons (ev_var 17) (ea_cons (ev_var 8) (ea_cons (ev_var 7) (ea_cons (ev_tup (ea_nil)) (ea_nil))))))).ev) ((eo_lst (ea_cons (ev_call (ok__law_error T) rfl tk (hr.mono (by decide)) T.m__law_error T.F__law_error.kp T.b__law_error (ea_cons (ev_int) (ea_cons (ev_var 8) (ea_cons (ev_var 7) (ea_cons (ev_int) (ea_nil)))))) (ea_nil))).ev)) (ev_mul ((eo_lst (ea_cons (ev_str) (ea_nil))).ev) (ev_int)))
      (ess_one (es_ret (ev_bool)))
      (ess_nil))))
      (ess_cons (es_for [0, 1, 4, 5, 6, 8, 9, 10, 11, 12, 13, 14, 15, 16, 17, 18] po rfl (ei_seq (ev_tup (ea_cons (ev_none) (ea_cons (ev_tup (ea_nil)) (ea_cons (ev_tup (ea_cons (ev_str) (ea_cons (ev_int) (ea_nil)))) (ea_cons (ev_tup (ea_cons (ev_str) (ea_cons (ev_int) (ea_cons (ev_int) (ea_nil))))) (ea_cons (ev_tup (ea_cons (ev_str) (ea_cons (ev_int) (ea_cons (ev_int) (ea_nil))))) (ea_cons ((eo_lst (ea_cons (ev_str) (ea_cons (ev_int) (ea_cons (ev_int) (ea_nil))))).ev) (ea_cons (ev_tup (ea_cons (ev_str) (ea_cons (ev_bool) (ea_cons (ev_int) (ea_nil))))) (ea_cons (ev_int) (ea_nil))))))))))) (eg_name 8 sc_law.nd)
      (ess_one (es_if (et_ne (hu_room hr) (ev_add ((eo_comp (own := [("call", 17)]) rfl sc_law.nd (ei_seq (ev_tup (ea_cons (ev_int) (ea_cons (ev_int) (ea_nil))))) (blkOk_by (N := N_law) (sc := defScope (topS 56)) (by decide +kernel)) (fun _ _ _ _ _ => eg_name 17 sc_law.nd) (by decide) (fun _ _ _ _ _ => ets_nil) (fun _ _ _ _ _ => ev_call (ok__law_error T) rfl takes0 (hr.mono (by decide)) T.m__law_error T.F__law_error.kp T.b__law_error (ea_cons (ev_var 17) (ea_cons (ev_var 2) (ea_cons (ev_var 8) (ea_cons (ev_tup (ea_nil)) (ea_nil))))))).ev) ((eo_lst (ea_cons (ev_call (ok__law_error T) rfl tk (hr.mono (by decide)) T.m__law_error T.F__law_error.kp T.b__law_error (ea_cons (ev_int) (ea_cons (ev_var 2) (ea_cons (ev_var 8) (ea_cons (ev_int) (ea_nil)))))) (ea_nil))).ev)) (ev_mul ((eo_lst (ea_cons (ev_str) (ea_nil))).ev) (ev_int)))
      (ess_one (es_ret (ev_bool)))
      (ess_nil))))
      (ess_cons (es_for [0, 1, 4, 5, 6, 8, 9, 10, 11, 12, 13, 14, 15, 16, 17, 18] po rfl (ei_seq (ev_tup (ea_cons (ev_none) (ea_cons ((eo_lst (ea_cons (ev_int) (ea_nil))).ev) (ea_cons (ev_tup (ea_cons (ev_var 3) (ea_nil))) (ea_cons (ev_tup (ea_cons (ev_neg (ev_int)) (ea_nil))) (ea_cons (ev_tup (ea_cons (ev_bool) (ea_nil))) (ea_cons (ev_mulT (ev_tup (ea_cons (ev_int) (ea_nil))) (ev_int)) (ea_nil))))))))) (eg_name 8 sc_law.nd)
      (ess_one (es_if (Ew.et (ew_or (et_ne (hu_room hr) ((eo_comp (own := [("call", 17)]) rfl sc_law.nd (ei_seq (ev_tup (ea_cons (ev_int) (ea_cons (ev_int) (ea_nil))))) (blkOk_by (N := N_law) (sc := defScope (topS 56)) (by decide +kernel)) (fun _ _ _ _ _ => eg_name 17 sc_law.nd) (by decide) (fun _ _ _ _ _ => ets_nil) (fun _ _ _ _ _ => ev_call (ok__law_error T) rfl takes0 (hr.mono (by decide)) T.m__law_error T.F__law_error.kp T.b__law_error (ea_cons (ev_var 17) (ea_cons (ev_var 2) (ea_cons (ev_var 7) (ea_cons (ev_var 8) (ea_nil))))))).ev) (ev_mul ((eo_lst (ea_cons (ev_str) (ea_nil))).ev) (ev_int))) (ew_or1 (Ew.et (ew_and (et_notN (ev_var 7)) (ew_and1 (et_ne (hu_room hr) ((eo_comp (own := [("call", 17)]) rfl sc_law.nd (ei_seq (ev_tup (ea_cons (ev_int) (ea_cons (ev_int) (ea_nil))))) (blkOk_by (N := N_law) (sc := defScope (topS 56)) (by decide +kernel)) (fun _ _ _ _ _ => eg_name 17 sc_law.nd) (by decide) (fun _ _ _ _ _ => ets_nil) (fun _ _ _ _ _ => ev_call (ok__law_error T) rfl takes0 (hr.mono (by decide)) T.m__law_error T.F__law_error.kp T.b__law_error (ea_cons (ev_var 17) (ea_cons (ev_var 2) (ea_cons (ev_var 7) (ea_cons (ev_var 8) (ea_nil))))))).ev) (ev_mul ((eo_lst (ea_cons (ev_str) (ea_nil))).ev) (ev_int)))))))))
      (ess_one (es_ret (ev_bool)))
      (ess_nil))))
      (ess_cons (es_if (Ew.et (ew_and (et_notN (ev_var 7)) (ew_and1 (et_ne (hu_room hr) ((eo_comp (own := [("wrong", 8)]) rfl sc_law.nd (ei_seq (ev_tup (ea_cons (ev_neg (ev_int)) (ea_cons (ev_var 3) (ea_cons (ev_bool) (ea_cons (ev_none) (ea_nil))))))) (blkOk_by (N := N_law) (sc := defScope (topS 56)) (by decide +kernel)) (fun _ _ _ _ _ => eg_name 8 sc_law.nd) (by decide) (fun _ _ _ _ _ => ets_nil) (fun _ _ _ _ _ => ev_call (ok__law_error T) rfl takes0 (hr.mono (by decide)) T.m__law_error T.F__law_error.kp T.b__law_error (ea_cons (ev_int) (ea_cons (ev_var 2) (ea_cons (ev_var 7) (ea_cons (ev_var 8) (ea_nil))))))).ev) (ev_mul ((eo_lst (ea_cons (ev_str) (ea_nil))).ev) (ev_int))))))
      (ess_one (es_ret (ev_bool)))
      (ess_nil))
      (ess_one (es_ret (ev_and (ev_eq (hu_room hr) (ev_call (ok_drop_with T) rfl tk (hr.mono (by decide)) T.m_drop_with T.F_drop_with.kp T.b_drop_with (ea_cons (ev_tup (ea_cons (ev_str) (ea_nil))) (ea_cons (ev_tup (ea_cons (ev_str) (ea_cons (ev_int) (ea_cons (ev_int) (ea_nil))))) (ea_cons (ev_int) (ea_nil))))) (ev_tup (ea_cons (ev_tup (ea_cons (ev_str) (ea_nil))) (ea_cons (ev_tup (ea_cons (ev_str) (ea_cons (ev_int) (ea_nil)))) (ea_nil))))) (ev_and (ev_eq (hu_room hr) (ev_call (ok_drop_with T) rfl tk (hr.mono (by decide)) T.m_drop_with T.F_drop_with.kp T.b_drop_with (ea_cons (ev_tup (ea_cons (ev_str) (ea_nil))) (ea_cons (ev_tup (ea_cons (ev_str) (ea_cons (ev_int) (ea_cons (ev_int) (ea_nil))))) (ea_cons (ev_int) (ea_nil))))) (ev_tup (ea_cons (ev_tup (ea_cons (ev_str) (ea_nil))) (ea_cons (ev_tup (ea_cons (ev_str) (ea_cons (ev_int) (ea_nil)))) (ea_nil))))) (ev_one (ev_eq (hu_room hr) (ev_call (ok_hidden T) rfl tk (hr.mono (by decide)) T.m_hidden T.F_hidden.kp T.b_hidden (ea_cons (ev_tup (ea_cons (ev_str) (ea_nil))) (ea_cons (ev_tup (ea_cons (ev_int) (ea_cons (ev_int) (ea_nil)))) (ea_nil)))) (ev_tup (ea_cons (ev_tup (ea_cons (ev_str) (ea_cons (ev_int) (ea_cons (ev_int) (ea_nil))))) (ea_nil)))))))))))))))))))))
end
theorem all_mk {P : Program} {w : World} {K : PySem.W.Frag} {h : Heap} {mg : Str → Option Value} {fa : Addr} (X : K.In h) (G : h.Ns mainGlobals mg) (hfa : mg "law" = some (.ref fa))
    {f0 : Addr} {od0 an0 : Option Addr} {sl0 : Array (Option Value)} {oc0 kV0 dc0 pm0 cd0 ct0 : Value}
    {f1 : Addr} {od1 an1 : Option Addr} {sl1 : Array (Option Value)} {oc1 kV1 dc1 pm1 cd1 ct1 : Value}
    {f2 : Addr} {od2 an2 : Option Addr} {sl2 : Array (Option Value)} {oc2 kV2 dc2 pm2 cd2 ct2 : Value}
    {f3 : Addr} {od3 an3 : Option Addr} {sl3 : Array (Option Value)} {oc3 kV3 dc3 pm3 cd3 ct3 : Value}
    {f4 : Addr} {od4 an4 : Option Addr} {sl4 : Array (Option Value)} {oc4 kV4 dc4 pm4 cd4 ct4 : Value}
    {f5 : Addr} {od5 an5 : Option Addr} {sl5 : Array (Option Value)} {oc5 kV5 dc5 pm5 cd5 ct5 : Value}
    {f6 : Addr} {od6 an6 : Option Addr} {sl6 : Array (Option Value)} {oc6 kV6 dc6 pm6 cd6 ct6 : Value}
    {f7 : Addr} {od7 an7 : Option Addr} {sl7 : Array (Option Value)} {oc7 kV7 dc7 pm7 cd7 ct7 : Value}
    {f8 : Addr} {od8 an8 : Option Addr} {sl8 : Array (Option Value)} {oc8 kV8 dc8 pm8 cd8 ct8 : Value}
    {f9 : Addr} {od9 an9 : Option Addr} {sl9 : Array (Option Value)} {oc9 kV9 dc9 pm9 cd9 ct9 : Value}
    {f10 : Addr} {od10 an10 : Option Addr} {sl10 : Array (Option Value)} {oc10 kV10 dc10 pm10 cd10 ct10 : Value}
    {f11 : Addr} {od11 an11 : Option Addr} {sl11 : Array (Option Value)} {oc11 kV11 dc11 pm11 cd11 ct11 : Value}
    {f12 : Addr} {od12 an12 : Option Addr} {sl12 : Array (Option Value)} {oc12 kV12 dc12 pm12 cd12 ct12 : Value}
    {f13 : Addr} {od13 an13 : Option Addr} {sl13 : Array (Option Value)} {oc13 kV13 dc13 pm13 cd13 ct13 : Value}
    {f14 : Addr} {od14 an14 : Option Addr} {sl14 : Array (Option Value)} {oc14 kV14 dc14 pm14 cd14 ct14 : Value}
    {f15 : Addr} {od15 an15 : Option Addr} {sl15 : Array (Option Value)} {oc15 kV15 dc15 pm15 cd15 ct15 : Value}
    {f16 : Addr} {od16 an16 : Option Addr} {sl16 : Array (Option Value)} {oc16 kV16 dc16 pm16 cd16 ct16 : Value}
    {f17 : Addr} {od17 an17 : Option Addr} {sl17 : Array (Option Value)} {oc17 kV17 dc17 pm17 cd17 ct17 : Value}
    {f18 : Addr} {od18 an18 : Option Addr} {sl18 : Array (Option Value)} {oc18 kV18 dc18 pm18 cd18 ct18 : Value}
    {f19 : Addr} {od19 an19 : Option Addr} {sl19 : Array (Option Value)} {oc19 kV19 dc19 pm19 cd19 ct19 : Value}
    {f20 : Addr} {od20 an20 : Option Addr} {sl20 : Array (Option Value)} {oc20 kV20 dc20 pm20 cd20 ct20 : Value}
    {f21 : Addr} {od21 an21 : Option Addr} {sl21 : Array (Option Value)} {oc21 kV21 dc21 pm21 cd21 ct21 : Value}
    {f22 : Addr} {od22 an22 : Option Addr} {sl22 : Array (Option Value)} {oc22 kV22 dc22 pm22 cd22 ct22 : Value}
    {f23 : Addr} {od23 an23 : Option Addr} {sl23 : Array (Option Value)} {oc23 kV23 dc23 pm23 cd23 ct23 : Value}
    {f24 : Addr} {od24 an24 : Option Addr} {sl24 : Array (Option Value)} {oc24 kV24 dc24 pm24 cd24 ct24 : Value}
    {f25 : Addr} {od25 an25 : Option Addr} {sl25 : Array (Option Value)} {oc25 kV25 dc25 pm25 cd25 ct25 : Value}
    {f26 : Addr} {od26 an26 : Option Addr} {sl26 : Array (Option Value)} {oc26 kV26 dc26 pm26 cd26 ct26 : Value}
    {f27 : Addr} {od27 an27 : Option Addr} {sl27 : Array (Option Value)} {oc27 kV27 dc27 pm27 cd27 ct27 : Value}
    {f28 : Addr} {od28 an28 : Option Addr} {sl28 : Array (Option Value)} {oc28 kV28 dc28 pm28 cd28 ct28 : Value}
    {f29 : Addr} {od29 an29 : Option Addr} {sl29 : Array (Option Value)} {oc29 kV29 dc29 pm29 cd29 ct29 : Value}
    {f30 : Addr} {od30 an30 : Option Addr} {sl30 : Array (Option Value)} {oc30 kV30 dc30 pm30 cd30 ct30 : Value}
    {C_BadBoard : Addr}
    {C_BadColumn : Addr}
    {C_BadColumns : Addr}
    {C_BadFault : Addr}
    {y_MOST_SIDE : Tok}
    {y_SIGNS : Tok}
    {y_SWITCHES : Tok}
    {y_LINKED : Tok}
    {t_FORM : Addr} {o_FORM : Option Addr} {it_FORM : Array Value} {n_FORM : Nat} {sl_FORM : Array (Option Value)}
    {t_OTHERS : Addr} {es_OTHERS : Array DictEntry} {n_OTHERS : Nat}
    {y_MOST_MARBLES : Tok}
    {y_STRAIGHT : Tok}
    {t_WAYS : Addr} {es_WAYS : Array DictEntry} {n_WAYS : Nat}
    {y_STOP : Tok}
    {y_CROSSING : Tok}
    {y_SLOPES : Tok}
    {y_FREE : Tok}
    {y_BENT : Tok}
    {y_STUCK : Tok}
    (a0 : PySem.W.nsIn K mainGlobals "is_whole" = some (some (.ref f0))) (l0 : K.lookup f0 = some ⟨oc0, od0, .func (PySem.W.fnOf "is_whole" "is_whole" (defArgs (topS 13)) (defBody (topS 13)) (defScope (topS 13)) .none kV0 dc0 pm0 an0 cd0 ct0), sl0⟩) (c0 : PySem.W.codeIn K cd0 "is_whole" = true) (k0 : PySem.W.keepIn K (.ref f0) = true)
    (a1 : PySem.W.nsIn K mainGlobals "board_fault" = some (some (.ref f1))) (l1 : K.lookup f1 = some ⟨oc1, od1, .func (PySem.W.fnOf "board_fault" "board_fault" (defArgs (topS 14)) (defBody (topS 14)) (defScope (topS 14)) .none kV1 dc1 pm1 an1 cd1 ct1), sl1⟩) (c1 : PySem.W.codeIn K cd1 "board_fault" = true) (k1 : PySem.W.keepIn K (.ref f1) = true)
    (a2 : PySem.W.nsIn K mainGlobals "check_board" = some (some (.ref f2))) (l2 : K.lookup f2 = some ⟨oc2, od2, .func (PySem.W.fnOf "check_board" "check_board" (defArgs (topS 15)) (defBody (topS 15)) (defScope (topS 15)) .none kV2 dc2 pm2 an2 cd2 ct2), sl2⟩) (c2 : PySem.W.codeIn K cd2 "check_board" = true) (k2 : PySem.W.keepIn K (.ref f2) = true)
    (a3 : PySem.W.nsIn K mainGlobals "places_with" = some (some (.ref f3))) (l3 : K.lookup f3 = some ⟨oc3, od3, .func (PySem.W.fnOf "places_with" "places_with" (defArgs (topS 16)) (defBody (topS 16)) (defScope (topS 16)) .none kV3 dc3 pm3 an3 cd3 ct3), sl3⟩) (c3 : PySem.W.codeIn K cd3 "places_with" = true) (k3 : PySem.W.keepIn K (.ref f3) = true)
    (a4 : PySem.W.nsIn K mainGlobals "group_at" = some (some (.ref f4))) (l4 : K.lookup f4 = some ⟨oc4, od4, .func (PySem.W.fnOf "group_at" "group_at" (defArgs (topS 17)) (defBody (topS 17)) (defScope (topS 17)) .none kV4 dc4 pm4 an4 cd4 ct4), sl4⟩) (c4 : PySem.W.codeIn K cd4 "group_at" = true) (k4 : PySem.W.keepIn K (.ref f4) = true)
    (a5 : PySem.W.nsIn K mainGlobals "is_place" = some (some (.ref f5))) (l5 : K.lookup f5 = some ⟨oc5, od5, .func (PySem.W.fnOf "is_place" "is_place" (defArgs (topS 18)) (defBody (topS 18)) (defScope (topS 18)) .none kV5 dc5 pm5 an5 cd5 ct5), sl5⟩) (c5 : PySem.W.codeIn K cd5 "is_place" = true) (k5 : PySem.W.keepIn K (.ref f5) = true)
    (a6 : PySem.W.nsIn K mainGlobals "turned_at" = some (some (.ref f6))) (l6 : K.lookup f6 = some ⟨oc6, od6, .func (PySem.W.fnOf "turned_at" "turned_at" (defArgs (topS 19)) (defBody (topS 19)) (defScope (topS 19)) .none kV6 dc6 pm6 an6 cd6 ct6), sl6⟩) (c6 : PySem.W.codeIn K cd6 "turned_at" = true) (k6 : PySem.W.keepIn K (.ref f6) = true)
    (a7 : PySem.W.nsIn K mainGlobals "check_column" = some (some (.ref f7))) (l7 : K.lookup f7 = some ⟨oc7, od7, .func (PySem.W.fnOf "check_column" "check_column" (defArgs (topS 26)) (defBody (topS 26)) (defScope (topS 26)) .none kV7 dc7 pm7 an7 cd7 ct7), sl7⟩) (c7 : PySem.W.codeIn K cd7 "check_column" = true) (k7 : PySem.W.keepIn K (.ref f7) = true)
    (a8 : PySem.W.nsIn K mainGlobals "way_at" = some (some (.ref f8))) (l8 : K.lookup f8 = some ⟨oc8, od8, .func (PySem.W.fnOf "way_at" "way_at" (defArgs (topS 27)) (defBody (topS 27)) (defScope (topS 27)) .none kV8 dc8 pm8 an8 cd8 ct8), sl8⟩) (c8 : PySem.W.codeIn K cd8 "way_at" = true) (k8 : PySem.W.keepIn K (.ref f8) = true)
    (a9 : PySem.W.nsIn K mainGlobals "beyond" = some (some (.ref f9))) (l9 : K.lookup f9 = some ⟨oc9, od9, .func (PySem.W.fnOf "beyond" "beyond" (defArgs (topS 28)) (defBody (topS 28)) (defScope (topS 28)) .none kV9 dc9 pm9 an9 cd9 ct9), sl9⟩) (c9 : PySem.W.codeIn K cd9 "beyond" = true) (k9 : PySem.W.keepIn K (.ref f9) = true)
    (a10 : PySem.W.nsIn K mainGlobals "behind" = some (some (.ref f10))) (l10 : K.lookup f10 = some ⟨oc10, od10, .func (PySem.W.fnOf "behind" "behind" (defArgs (topS 29)) (defBody (topS 29)) (defScope (topS 29)) .none kV10 dc10 pm10 an10 cd10 ct10), sl10⟩) (c10 : PySem.W.codeIn K cd10 "behind" = true) (k10 : PySem.W.keepIn K (.ref f10) = true)
    (a11 : PySem.W.nsIn K mainGlobals "check_columns" = some (some (.ref f11))) (l11 : K.lookup f11 = some ⟨oc11, od11, .func (PySem.W.fnOf "check_columns" "check_columns" (defArgs (topS 30)) (defBody (topS 30)) (defScope (topS 30)) .none kV11 dc11 pm11 an11 cd11 ct11), sl11⟩) (c11 : PySem.W.codeIn K cd11 "check_columns" = true) (k11 : PySem.W.keepIn K (.ref f11) = true)
    (a12 : PySem.W.nsIn K mainGlobals "faults_in" = some (some (.ref f12))) (l12 : K.lookup f12 = some ⟨oc12, od12, .func (PySem.W.fnOf "faults_in" "faults_in" (defArgs (topS 36)) (defBody (topS 36)) (defScope (topS 36)) .none kV12 dc12 pm12 an12 cd12 ct12), sl12⟩) (c12 : PySem.W.codeIn K cd12 "faults_in" = true) (k12 : PySem.W.keepIn K (.ref f12) = true)
    (a13 : PySem.W.nsIn K mainGlobals "faults_of" = some (some (.ref f13))) (l13 : K.lookup f13 = some ⟨oc13, od13, .func (PySem.W.fnOf "faults_of" "faults_of" (defArgs (topS 37)) (defBody (topS 37)) (defScope (topS 37)) .none kV13 dc13 pm13 an13 cd13 ct13), sl13⟩) (c13 : PySem.W.codeIn K cd13 "faults_of" = true) (k13 : PySem.W.keepIn K (.ref f13) = true)
    (a14 : PySem.W.nsIn K mainGlobals "check_fault" = some (some (.ref f14))) (l14 : K.lookup f14 = some ⟨oc14, od14, .func (PySem.W.fnOf "check_fault" "check_fault" (defArgs (topS 38)) (defBody (topS 38)) (defScope (topS 38)) .none kV14 dc14 pm14 an14 cd14 ct14), sl14⟩) (c14 : PySem.W.codeIn K cd14 "check_fault" = true) (k14 : PySem.W.keepIn K (.ref f14) = true)
    (a15 : PySem.W.nsIn K mainGlobals "fall_with" = some (some (.ref f15))) (l15 : K.lookup f15 = some ⟨oc15, od15, .func (PySem.W.fnOf "fall_with" "fall_with" (defArgs (topS 39)) (defBody (topS 39)) (defScope (topS 39)) .none kV15 dc15 pm15 an15 cd15 ct15), sl15⟩) (c15 : PySem.W.codeIn K cd15 "fall_with" = true) (k15 : PySem.W.keepIn K (.ref f15) = true)
    (a16 : PySem.W.nsIn K mainGlobals "drop_with" = some (some (.ref f16))) (l16 : K.lookup f16 = some ⟨oc16, od16, .func (PySem.W.fnOf "drop_with" "drop_with" (defArgs (topS 40)) (defBody (topS 40)) (defScope (topS 40)) .none kV16 dc16 pm16 an16 cd16 ct16), sl16⟩) (c16 : PySem.W.codeIn K cd16 "drop_with" = true) (k16 : PySem.W.keepIn K (.ref f16) = true)
    (a17 : PySem.W.nsIn K mainGlobals "ends_in" = some (some (.ref f17))) (l17 : K.lookup f17 = some ⟨oc17, od17, .func (PySem.W.fnOf "ends_in" "ends_in" (defArgs (topS 41)) (defBody (topS 41)) (defScope (topS 41)) .none kV17 dc17 pm17 an17 cd17 ct17), sl17⟩) (c17 : PySem.W.codeIn K cd17 "ends_in" = true) (k17 : PySem.W.keepIn K (.ref f17) = true)
    (a18 : PySem.W.nsIn K mainGlobals "ends_with" = some (some (.ref f18))) (l18 : K.lookup f18 = some ⟨oc18, od18, .func (PySem.W.fnOf "ends_with" "ends_with" (defArgs (topS 42)) (defBody (topS 42)) (defScope (topS 42)) .none kV18 dc18 pm18 an18 cd18 ct18), sl18⟩) (c18 : PySem.W.codeIn K cd18 "ends_with" = true) (k18 : PySem.W.keepIn K (.ref f18) = true)
    (a19 : PySem.W.nsIn K mainGlobals "shows" = some (some (.ref f19))) (l19 : K.lookup f19 = some ⟨oc19, od19, .func (PySem.W.fnOf "shows" "shows" (defArgs (topS 43)) (defBody (topS 43)) (defScope (topS 43)) .none kV19 dc19 pm19 an19 cd19 ct19), sl19⟩) (c19 : PySem.W.codeIn K cd19 "shows" = true) (k19 : PySem.W.keepIn K (.ref f19) = true)
    (a20 : PySem.W.nsIn K mainGlobals "hidden_in" = some (some (.ref f20))) (l20 : K.lookup f20 = some ⟨oc20, od20, .func (PySem.W.fnOf "hidden_in" "hidden_in" (defArgs (topS 44)) (defBody (topS 44)) (defScope (topS 44)) .none kV20 dc20 pm20 an20 cd20 ct20), sl20⟩) (c20 : PySem.W.codeIn K cd20 "hidden_in" = true) (k20 : PySem.W.keepIn K (.ref f20) = true)
    (a21 : PySem.W.nsIn K mainGlobals "hidden" = some (some (.ref f21))) (l21 : K.lookup f21 = some ⟨oc21, od21, .func (PySem.W.fnOf "hidden" "hidden" (defArgs (topS 45)) (defBody (topS 45)) (defScope (topS 45)) .none kV21 dc21 pm21 an21 cd21 ct21), sl21⟩) (c21 : PySem.W.codeIn K cd21 "hidden" = true) (k21 : PySem.W.keepIn K (.ref f21) = true)
    (a22 : PySem.W.nsIn K mainGlobals "alike" = some (some (.ref f22))) (l22 : K.lookup f22 = some ⟨oc22, od22, .func (PySem.W.fnOf "alike" "alike" (defArgs (topS 46)) (defBody (topS 46)) (defScope (topS 46)) .none kV22 dc22 pm22 an22 cd22 ct22), sl22⟩) (c22 : PySem.W.codeIn K cd22 "alike" = true) (k22 : PySem.W.keepIn K (.ref f22) = true)
    (a23 : PySem.W.nsIn K mainGlobals "_law_draws" = some (some (.ref f23))) (l23 : K.lookup f23 = some ⟨oc23, od23, .func (PySem.W.fnOf "_law_draws" "_law_draws" (defArgs (topS 48)) (defBody (topS 48)) (defScope (topS 48)) .none kV23 dc23 pm23 an23 cd23 ct23), sl23⟩) (c23 : PySem.W.codeIn K cd23 "_law_draws" = true) (k23 : PySem.W.keepIn K (.ref f23) = true)
    (a24 : PySem.W.nsIn K mainGlobals "_law_board" = some (some (.ref f24))) (l24 : K.lookup f24 = some ⟨oc24, od24, .func (PySem.W.fnOf "_law_board" "_law_board" (defArgs (topS 49)) (defBody (topS 49)) (defScope (topS 49)) .none kV24 dc24 pm24 an24 cd24 ct24), sl24⟩) (c24 : PySem.W.codeIn K cd24 "_law_board" = true) (k24 : PySem.W.keepIn K (.ref f24) = true)
    (a25 : PySem.W.nsIn K mainGlobals "_law_group" = some (some (.ref f25))) (l25 : K.lookup f25 = some ⟨oc25, od25, .func (PySem.W.fnOf "_law_group" "_law_group" (defArgs (topS 50)) (defBody (topS 50)) (defScope (topS 50)) .none kV25 dc25 pm25 an25 cd25 ct25), sl25⟩) (c25 : PySem.W.codeIn K cd25 "_law_group" = true) (k25 : PySem.W.keepIn K (.ref f25) = true)
    (a26 : PySem.W.nsIn K mainGlobals "_law_turned" = some (some (.ref f26))) (l26 : K.lookup f26 = some ⟨oc26, od26, .func (PySem.W.fnOf "_law_turned" "_law_turned" (defArgs (topS 51)) (defBody (topS 51)) (defScope (topS 51)) .none kV26 dc26 pm26 an26 cd26 ct26), sl26⟩) (c26 : PySem.W.codeIn K cd26 "_law_turned" = true) (k26 : PySem.W.keepIn K (.ref f26) = true)
    (a27 : PySem.W.nsIn K mainGlobals "_law_with" = some (some (.ref f27))) (l27 : K.lookup f27 = some ⟨oc27, od27, .func (PySem.W.fnOf "_law_with" "_law_with" (defArgs (topS 53)) (defBody (topS 53)) (defScope (topS 53)) .none kV27 dc27 pm27 an27 cd27 ct27), sl27⟩) (c27 : PySem.W.codeIn K cd27 "_law_with" = true) (k27 : PySem.W.keepIn K (.ref f27) = true)
    (a28 : PySem.W.nsIn K mainGlobals "_law_ends" = some (some (.ref f28))) (l28 : K.lookup f28 = some ⟨oc28, od28, .func (PySem.W.fnOf "_law_ends" "_law_ends" (defArgs (topS 54)) (defBody (topS 54)) (defScope (topS 54)) .none kV28 dc28 pm28 an28 cd28 ct28), sl28⟩) (c28 : PySem.W.codeIn K cd28 "_law_ends" = true) (k28 : PySem.W.keepIn K (.ref f28) = true)
    (a29 : PySem.W.nsIn K mainGlobals "_law_error" = some (some (.ref f29))) (l29 : K.lookup f29 = some ⟨oc29, od29, .func (PySem.W.fnOf "_law_error" "_law_error" (defArgs (topS 55)) (defBody (topS 55)) (defScope (topS 55)) .none kV29 dc29 pm29 an29 cd29 ct29), sl29⟩) (c29 : PySem.W.codeIn K cd29 "_law_error" = true) (k29 : PySem.W.keepIn K (.ref f29) = true)
    (a30 : PySem.W.nsIn K mainGlobals "law" = some (some (.ref f30))) (l30 : K.lookup f30 = some ⟨oc30, od30, .func (PySem.W.fnOf "law" "law" (defArgs (topS 56)) (defBody (topS 56)) (defScope (topS 56)) .none kV30 dc30 pm30 an30 cd30 ct30), sl30⟩) (c30 : PySem.W.codeIn K cd30 "law" = true) (k30 : PySem.W.keepIn K (.ref f30) = true)
    (aC_BadBoard : PySem.W.nsIn K mainGlobals "BadBoard" = some (some (.ref C_BadBoard))) (xC_BadBoard : PySem.W.excIn K C_BadBoard [.type "ValueError", .type "Exception", .type "BaseException", .type "object"] "ValueError.__new__" = true) (kC_BadBoard : PySem.W.keepIn K (.ref C_BadBoard) = true) (bC_BadBoard : PySem.W.subIn K (.ref C_BadBoard) (.type "BaseException") = some true) (tC_BadBoard : PySem.W.typeIn K (.ref C_BadBoard) = some (.type "type"))
    (aC_BadColumn : PySem.W.nsIn K mainGlobals "BadColumn" = some (some (.ref C_BadColumn))) (xC_BadColumn : PySem.W.excIn K C_BadColumn [.type "ValueError", .type "Exception", .type "BaseException", .type "object"] "ValueError.__new__" = true) (kC_BadColumn : PySem.W.keepIn K (.ref C_BadColumn) = true) (bC_BadColumn : PySem.W.subIn K (.ref C_BadColumn) (.type "BaseException") = some true) (tC_BadColumn : PySem.W.typeIn K (.ref C_BadColumn) = some (.type "type"))
    (aC_BadColumns : PySem.W.nsIn K mainGlobals "BadColumns" = some (some (.ref C_BadColumns))) (xC_BadColumns : PySem.W.excIn K C_BadColumns [.type "ValueError", .type "Exception", .type "BaseException", .type "object"] "ValueError.__new__" = true) (kC_BadColumns : PySem.W.keepIn K (.ref C_BadColumns) = true) (bC_BadColumns : PySem.W.subIn K (.ref C_BadColumns) (.type "BaseException") = some true) (tC_BadColumns : PySem.W.typeIn K (.ref C_BadColumns) = some (.type "type"))
    (aC_BadFault : PySem.W.nsIn K mainGlobals "BadFault" = some (some (.ref C_BadFault))) (xC_BadFault : PySem.W.excIn K C_BadFault [.type "ValueError", .type "Exception", .type "BaseException", .type "object"] "ValueError.__new__" = true) (kC_BadFault : PySem.W.keepIn K (.ref C_BadFault) = true) (bC_BadFault : PySem.W.subIn K (.ref C_BadFault) (.type "BaseException") = some true) (tC_BadFault : PySem.W.typeIn K (.ref C_BadFault) = some (.type "type"))
    (iC_BadBoard : PySem.W.isClsIn K C_BadBoard = true)
    (iC_BadColumn : PySem.W.isClsIn K C_BadColumn = true)
    (iC_BadColumns : PySem.W.isClsIn K C_BadColumns = true)
    (iC_BadFault : PySem.W.isClsIn K C_BadFault = true)
    (s_BadBoard_BadBoard : PySem.W.subIn K (.ref C_BadBoard) (.ref C_BadBoard) = some true)
    (s_BadBoard_BadColumn : PySem.W.subIn K (.ref C_BadBoard) (.ref C_BadColumn) = some false)
    (s_BadBoard_BadColumns : PySem.W.subIn K (.ref C_BadBoard) (.ref C_BadColumns) = some false)
    (s_BadBoard_BadFault : PySem.W.subIn K (.ref C_BadBoard) (.ref C_BadFault) = some false)
    (s_BadColumn_BadBoard : PySem.W.subIn K (.ref C_BadColumn) (.ref C_BadBoard) = some false)
    (s_BadColumn_BadColumn : PySem.W.subIn K (.ref C_BadColumn) (.ref C_BadColumn) = some true)
    (s_BadColumn_BadColumns : PySem.W.subIn K (.ref C_BadColumn) (.ref C_BadColumns) = some false)
    (s_BadColumn_BadFault : PySem.W.subIn K (.ref C_BadColumn) (.ref C_BadFault) = some false)
    (s_BadColumns_BadBoard : PySem.W.subIn K (.ref C_BadColumns) (.ref C_BadBoard) = some false)
    (s_BadColumns_BadColumn : PySem.W.subIn K (.ref C_BadColumns) (.ref C_BadColumn) = some false)
    (s_BadColumns_BadColumns : PySem.W.subIn K (.ref C_BadColumns) (.ref C_BadColumns) = some true)
    (s_BadColumns_BadFault : PySem.W.subIn K (.ref C_BadColumns) (.ref C_BadFault) = some false)
    (s_BadFault_BadBoard : PySem.W.subIn K (.ref C_BadFault) (.ref C_BadBoard) = some false)
    (s_BadFault_BadColumn : PySem.W.subIn K (.ref C_BadFault) (.ref C_BadColumn) = some false)
    (s_BadFault_BadColumns : PySem.W.subIn K (.ref C_BadFault) (.ref C_BadColumns) = some false)
    (s_BadFault_BadFault : PySem.W.subIn K (.ref C_BadFault) (.ref C_BadFault) = some true)
    (z_abs : PySem.W.nsIn K mainGlobals "abs" = some none)
    (z_all : PySem.W.nsIn K mainGlobals "all" = some none)
    (z_any : PySem.W.nsIn K mainGlobals "any" = some none)
    (z_bool : PySem.W.nsIn K mainGlobals "bool" = some none)
    (z_enumerate : PySem.W.nsIn K mainGlobals "enumerate" = some none)
    (z_int : PySem.W.nsIn K mainGlobals "int" = some none)
    (z_isinstance : PySem.W.nsIn K mainGlobals "isinstance" = some none)
    (z_len : PySem.W.nsIn K mainGlobals "len" = some none)
    (z_list : PySem.W.nsIn K mainGlobals "list" = some none)
    (z_range : PySem.W.nsIn K mainGlobals "range" = some none)
    (z_set : PySem.W.nsIn K mainGlobals "set" = some none)
    (z_sorted : PySem.W.nsIn K mainGlobals "sorted" = some none)
    (z_str : PySem.W.nsIn K mainGlobals "str" = some none)
    (z_tuple : PySem.W.nsIn K mainGlobals "tuple" = some none)
    (g_MOST_SIDE : PySem.W.nsIn K mainGlobals "MOST_SIDE" = some (some (.int 16 y_MOST_SIDE)))
    (g_SIGNS : PySem.W.nsIn K mainGlobals "SIGNS" = some (some (.str ".\\/LR<>X#" y_SIGNS)))
    (g_SWITCHES : PySem.W.nsIn K mainGlobals "SWITCHES" = some (some (.str "LR<>" y_SWITCHES)))
    (g_LINKED : PySem.W.nsIn K mainGlobals "LINKED" = some (some (.str "<>" y_LINKED)))
    (g_FORM : PySem.W.nsIn K mainGlobals "FORM" = some (some (.ref t_FORM))) (h_FORM : K.lookup t_FORM = some ⟨.type "tuple", o_FORM, .seq it_FORM n_FORM, sl_FORM⟩) (z_FORM : it_FORM.size ≤ sizeLine) (v_FORM : Vals [V.str "form"] it_FORM.toList)
    (g_OTHERS : PySem.W.nsIn K mainGlobals "OTHERS" = some (some (.ref t_OTHERS))) (h_OTHERS : K.lookup t_OTHERS = some ⟨.type "dict", none, .dict es_OTHERS n_OTHERS, #[]⟩) (y_OTHERS : (t_OTHERS == sysModules) = false) (r_OTHERS : RDE w K (fun _ => none) es_OTHERS.toList [(.str "L", .str "R"), (.str "R", .str "L"), (.str "<", .str ">"), (.str ">", .str "<")])
    (g_MOST_MARBLES : PySem.W.nsIn K mainGlobals "MOST_MARBLES" = some (some (.int 200 y_MOST_MARBLES)))
    (g_STRAIGHT : PySem.W.nsIn K mainGlobals "STRAIGHT" = some (some (.int 0 y_STRAIGHT)))
    (g_WAYS : PySem.W.nsIn K mainGlobals "WAYS" = some (some (.ref t_WAYS))) (h_WAYS : K.lookup t_WAYS = some ⟨.type "dict", none, .dict es_WAYS n_WAYS, #[]⟩) (y_WAYS : (t_WAYS == sysModules) = false) (r_WAYS : RDE w K (fun _ => none) es_WAYS.toList [(.str ".", .int 0), (.str "/", .int (-1)), (.str "L", .int (-1)), (.str "<", .int (-1)), (.str "\\", .int 1), (.str "R", .int 1), (.str ">", .int 1)])
    (g_STOP : PySem.W.nsIn K mainGlobals "STOP" = some (some (.str "#" y_STOP)))
    (g_CROSSING : PySem.W.nsIn K mainGlobals "CROSSING" = some (some (.str "X" y_CROSSING)))
    (g_SLOPES : PySem.W.nsIn K mainGlobals "SLOPES" = some (some (.str "/\\" y_SLOPES)))
    (g_FREE : PySem.W.nsIn K mainGlobals "FREE" = some (some (.str "LR" y_FREE)))
    (g_BENT : PySem.W.nsIn K mainGlobals "BENT" = some (some (.str "bent" y_BENT)))
    (g_STUCK : PySem.W.nsIn K mainGlobals "STUCK" = some (some (.str "stuck" y_STUCK))) :
    ∃ T : Txt P w K mg, T.f_law = fa ∧ ∀ (s : Shared) (v : Value), BindsTo s T.d_law ⟨[v], []⟩ [("script", v)] := by
  have e := hfa.symm.trans (PySem.W.mg_of X G a30)
  cases e
  exact ⟨{ f_is_whole := f0, d_is_whole := _, m_is_whole := PySem.W.mg_of X G a0, F_is_whole := fun_mk (st := topS 13) l0 c0 k0, b_is_whole := (fun_mk (st := topS 13) l0 c0 k0).binds (ps := ["value", "least", "most"]) (fun _ _ _ _ _ _ us hl => match us, hl with | [_, _, _], _ => rfl), f_board_fault := f1, d_board_fault := _, m_board_fault := PySem.W.mg_of X G a1, F_board_fault := fun_mk (st := topS 14) l1 c1 k1, b_board_fault := (fun_mk (st := topS 14) l1 c1 k1).binds (ps := ["value"]) (fun _ _ _ _ _ _ us hl => match us, hl with | [_], _ => rfl), f_check_board := f2, d_check_board := _, m_check_board := PySem.W.mg_of X G a2, F_check_board := fun_mk (st := topS 15) l2 c2 k2, b_check_board := (fun_mk (st := topS 15) l2 c2 k2).binds (ps := ["board"]) (fun _ _ _ _ _ _ us hl => match us, hl with | [_], _ => rfl), f_places_with := f3, d_places_with := _, m_places_with := PySem.W.mg_of X G a3, F_places_with := fun_mk (st := topS 16) l3 c3 k3, b_places_with := (fun_mk (st := topS 16) l3 c3 k3).binds (ps := ["board", "signs"]) (fun _ _ _ _ _ _ us hl => match us, hl with | [_, _], _ => rfl), f_group_at := f4, d_group_at := _, m_group_at := PySem.W.mg_of X G a4, F_group_at := fun_mk (st := topS 17) l4 c4 k4, b_group_at := (fun_mk (st := topS 17) l4 c4 k4).binds (ps := ["board", "place"]) (fun _ _ _ _ _ _ us hl => match us, hl with | [_, _], _ => rfl), f_is_place := f5, d_is_place := _, m_is_place := PySem.W.mg_of X G a5, F_is_place := fun_mk (st := topS 18) l5 c5 k5, b_is_place := (fun_mk (st := topS 18) l5 c5 k5).binds (ps := ["board", "place"]) (fun _ _ _ _ _ _ us hl => match us, hl with | [_, _], _ => rfl), f_turned_at := f6, d_turned_at := _, m_turned_at := PySem.W.mg_of X G a6, F_turned_at := fun_mk (st := topS 19) l6 c6 k6, b_turned_at := (fun_mk (st := topS 19) l6 c6 k6).binds (ps := ["board", "places"]) (fun _ _ _ _ _ _ us hl => match us, hl with | [_, _], _ => rfl), f_check_column := f7, d_check_column := _, m_check_column := PySem.W.mg_of X G a7, F_check_column := fun_mk (st := topS 26) l7 c7 k7, b_check_column := (fun_mk (st := topS 26) l7 c7 k7).binds (ps := ["board", "column"]) (fun _ _ _ _ _ _ us hl => match us, hl with | [_, _], _ => rfl), f_way_at := f8, d_way_at := _, m_way_at := PySem.W.mg_of X G a8, F_way_at := fun_mk (st := topS 27) l8 c8 k8, b_way_at := (fun_mk (st := topS 27) l8 c8 k8).binds (ps := ["sign", "way"]) (fun _ _ _ _ _ _ us hl => match us, hl with | [_, _], _ => rfl), f_beyond := f9, d_beyond := _, m_beyond := PySem.W.mg_of X G a9, F_beyond := fun_mk (st := topS 28) l9 c9 k9, b_beyond := (fun_mk (st := topS 28) l9 c9 k9).binds (ps := ["board", "row", "column"]) (fun _ _ _ _ _ _ us hl => match us, hl with | [_, _, _], _ => rfl), f_behind := f10, d_behind := _, m_behind := PySem.W.mg_of X G a10, F_behind := fun_mk (st := topS 29) l10 c10 k10, b_behind := (fun_mk (st := topS 29) l10 c10 k10).binds (ps := ["board", "row", "column"]) (fun _ _ _ _ _ _ us hl => match us, hl with | [_, _, _], _ => rfl), f_check_columns := f11, d_check_columns := _, m_check_columns := PySem.W.mg_of X G a11, F_check_columns := fun_mk (st := topS 30) l11 c11 k11, b_check_columns := (fun_mk (st := topS 30) l11 c11 k11).binds (ps := ["board", "columns"]) (fun _ _ _ _ _ _ us hl => match us, hl with | [_, _], _ => rfl), f_faults_in := f12, d_faults_in := _, m_faults_in := PySem.W.mg_of X G a12, F_faults_in := fun_mk (st := topS 36) l12 c12 k12, b_faults_in := (fun_mk (st := topS 36) l12 c12 k12).binds (ps := ["board"]) (fun _ _ _ _ _ _ us hl => match us, hl with | [_], _ => rfl), f_faults_of := f13, d_faults_of := _, m_faults_of := PySem.W.mg_of X G a13, F_faults_of := fun_mk (st := topS 37) l13 c13 k13, b_faults_of := (fun_mk (st := topS 37) l13 c13 k13).binds (ps := ["board"]) (fun _ _ _ _ _ _ us hl => match us, hl with | [_], _ => rfl), f_check_fault := f14, d_check_fault := _, m_check_fault := PySem.W.mg_of X G a14, F_check_fault := fun_mk (st := topS 38) l14 c14 k14, b_check_fault := (fun_mk (st := topS 38) l14 c14 k14).binds (ps := ["board", "fault"]) (fun _ _ _ _ _ _ us hl => match us, hl with | [_, _], _ => rfl), f_fall_with := f15, d_fall_with := _, m_fall_with := PySem.W.mg_of X G a15, F_fall_with := fun_mk (st := topS 39) l15 c15 k15, b_fall_with := (fun_mk (st := topS 39) l15 c15 k15).binds (ps := ["board", "fault", "column"]) (fun _ _ _ _ _ _ us hl => match us, hl with | [_, _, _], _ => rfl), f_drop_with := f16, d_drop_with := _, m_drop_with := PySem.W.mg_of X G a16, F_drop_with := fun_mk (st := topS 40) l16 c16 k16, b_drop_with := (fun_mk (st := topS 40) l16 c16 k16).binds (ps := ["board", "fault", "column"]) (fun _ _ _ _ _ _ us hl => match us, hl with | [_, _, _], _ => rfl), f_ends_in := f17, d_ends_in := _, m_ends_in := PySem.W.mg_of X G a17, F_ends_in := fun_mk (st := topS 41) l17 c17 k17, b_ends_in := (fun_mk (st := topS 41) l17 c17 k17).binds (ps := ["board", "fault", "columns"]) (fun _ _ _ _ _ _ us hl => match us, hl with | [_, _, _], _ => rfl), f_ends_with := f18, d_ends_with := _, m_ends_with := PySem.W.mg_of X G a18, F_ends_with := fun_mk (st := topS 42) l18 c18 k18, b_ends_with := (fun_mk (st := topS 42) l18 c18 k18).binds (ps := ["board", "fault", "columns"]) (fun _ _ _ _ _ _ us hl => match us, hl with | [_, _, _], _ => rfl), f_shows := f19, d_shows := _, m_shows := PySem.W.mg_of X G a19, F_shows := fun_mk (st := topS 43) l19 c19 k19, b_shows := (fun_mk (st := topS 43) l19 c19 k19).binds (ps := ["board", "fault", "columns"]) (fun _ _ _ _ _ _ us hl => match us, hl with | [_, _, _], _ => rfl), f_hidden_in := f20, d_hidden_in := _, m_hidden_in := PySem.W.mg_of X G a20, F_hidden_in := fun_mk (st := topS 44) l20 c20 k20, b_hidden_in := (fun_mk (st := topS 44) l20 c20 k20).binds (ps := ["board", "columns"]) (fun _ _ _ _ _ _ us hl => match us, hl with | [_, _], _ => rfl), f_hidden := f21, d_hidden := _, m_hidden := PySem.W.mg_of X G a21, F_hidden := fun_mk (st := topS 45) l21 c21 k21, b_hidden := (fun_mk (st := topS 45) l21 c21 k21).binds (ps := ["board", "columns"]) (fun _ _ _ _ _ _ us hl => match us, hl with | [_, _], _ => rfl), f_alike := f22, d_alike := _, m_alike := PySem.W.mg_of X G a22, F_alike := fun_mk (st := topS 46) l22 c22 k22, b_alike := (fun_mk (st := topS 46) l22 c22 k22).binds (ps := ["board", "columns"]) (fun _ _ _ _ _ _ us hl => match us, hl with | [_, _], _ => rfl), f__law_draws := f23, d__law_draws := _, m__law_draws := PySem.W.mg_of X G a23, F__law_draws := fun_mk (st := topS 48) l23 c23 k23, b__law_draws := (fun_mk (st := topS 48) l23 c23 k23).binds (ps := ["script", "many"]) (fun _ _ _ _ _ _ us hl => match us, hl with | [_, _], _ => rfl), f__law_board := f24, d__law_board := _, m__law_board := PySem.W.mg_of X G a24, F__law_board := fun_mk (st := topS 49) l24 c24 k24, b__law_board := (fun_mk (st := topS 49) l24 c24 k24).binds (ps := ["draws", "signs"]) (fun _ _ _ _ _ _ us hl => match us, hl with | [_, _], _ => rfl), f__law_group := f25, d__law_group := _, m__law_group := PySem.W.mg_of X G a25, F__law_group := fun_mk (st := topS 50) l25 c25 k25, b__law_group := (fun_mk (st := topS 50) l25 c25 k25).binds (ps := ["board", "place"]) (fun _ _ _ _ _ _ us hl => match us, hl with | [_, _], _ => rfl), f__law_turned := f26, d__law_turned := _, m__law_turned := PySem.W.mg_of X G a26, F__law_turned := fun_mk (st := topS 51) l26 c26 k26, b__law_turned := (fun_mk (st := topS 51) l26 c26 k26).binds (ps := ["board", "places"]) (fun _ _ _ _ _ _ us hl => match us, hl with | [_, _], _ => rfl), f__law_with := f27, d__law_with := _, m__law_with := PySem.W.mg_of X G a27, F__law_with := fun_mk (st := topS 53) l27 c27 k27, b__law_with := (fun_mk (st := topS 53) l27 c27 k27).binds (ps := ["board", "fault", "column"]) (fun _ _ _ _ _ _ us hl => match us, hl with | [_, _, _], _ => rfl), f__law_ends := f28, d__law_ends := _, m__law_ends := PySem.W.mg_of X G a28, F__law_ends := fun_mk (st := topS 54) l28 c28 k28, b__law_ends := (fun_mk (st := topS 54) l28 c28 k28).binds (ps := ["board", "fault", "columns"]) (fun _ _ _ _ _ _ us hl => match us, hl with | [_, _, _], _ => rfl), f__law_error := f29, d__law_error := _, m__law_error := PySem.W.mg_of X G a29, F__law_error := fun_mk (st := topS 55) l29 c29 k29, b__law_error := (fun_mk (st := topS 55) l29 c29 k29).binds (ps := ["call", "one", "two", "three"]) (fun _ _ _ _ _ _ us hl => match us, hl with | [_, _, _, _], _ => rfl), f_law := fa, d_law := _, m_law := PySem.W.mg_of X G a30, F_law := fun_mk (st := topS 56) l30 c30 k30, b_law := (fun_mk (st := topS 56) l30 c30 k30).binds (ps := ["script"]) (fun _ _ _ _ _ _ us hl => match us, hl with | [_], _ => rfl), C_BadBoard := C_BadBoard, g_BadBoard := PySem.W.mg_of X G aC_BadBoard, x_BadBoard := xC_BadBoard, k_BadBoard := kC_BadBoard, b_BadBoard := bC_BadBoard, t_BadBoard := tC_BadBoard, C_BadColumn := C_BadColumn, g_BadColumn := PySem.W.mg_of X G aC_BadColumn, x_BadColumn := xC_BadColumn, k_BadColumn := kC_BadColumn, b_BadColumn := bC_BadColumn, t_BadColumn := tC_BadColumn, C_BadColumns := C_BadColumns, g_BadColumns := PySem.W.mg_of X G aC_BadColumns, x_BadColumns := xC_BadColumns, k_BadColumns := kC_BadColumns, b_BadColumns := bC_BadColumns, t_BadColumns := tC_BadColumns, C_BadFault := C_BadFault, g_BadFault := PySem.W.mg_of X G aC_BadFault, x_BadFault := xC_BadFault, k_BadFault := kC_BadFault, b_BadFault := bC_BadFault, t_BadFault := tC_BadFault, e_BadBoard_BadBoard := exm_own bC_BadBoard iC_BadBoard tC_BadBoard bC_BadBoard s_BadBoard_BadBoard, e_BadBoard_BadColumn := exm_own bC_BadBoard iC_BadColumn tC_BadColumn bC_BadColumn s_BadBoard_BadColumn, e_BadBoard_BadColumns := exm_own bC_BadBoard iC_BadColumns tC_BadColumns bC_BadColumns s_BadBoard_BadColumns, e_BadBoard_BadFault := exm_own bC_BadBoard iC_BadFault tC_BadFault bC_BadFault s_BadBoard_BadFault, e_BadColumn_BadBoard := exm_own bC_BadColumn iC_BadBoard tC_BadBoard bC_BadBoard s_BadColumn_BadBoard, e_BadColumn_BadColumn := exm_own bC_BadColumn iC_BadColumn tC_BadColumn bC_BadColumn s_BadColumn_BadColumn, e_BadColumn_BadColumns := exm_own bC_BadColumn iC_BadColumns tC_BadColumns bC_BadColumns s_BadColumn_BadColumns, e_BadColumn_BadFault := exm_own bC_BadColumn iC_BadFault tC_BadFault bC_BadFault s_BadColumn_BadFault, e_BadColumns_BadBoard := exm_own bC_BadColumns iC_BadBoard tC_BadBoard bC_BadBoard s_BadColumns_BadBoard, e_BadColumns_BadColumn := exm_own bC_BadColumns iC_BadColumn tC_BadColumn bC_BadColumn s_BadColumns_BadColumn, e_BadColumns_BadColumns := exm_own bC_BadColumns iC_BadColumns tC_BadColumns bC_BadColumns s_BadColumns_BadColumns, e_BadColumns_BadFault := exm_own bC_BadColumns iC_BadFault tC_BadFault bC_BadFault s_BadColumns_BadFault, e_BadFault_BadBoard := exm_own bC_BadFault iC_BadBoard tC_BadBoard bC_BadBoard s_BadFault_BadBoard, e_BadFault_BadColumn := exm_own bC_BadFault iC_BadColumn tC_BadColumn bC_BadColumn s_BadFault_BadColumn, e_BadFault_BadColumns := exm_own bC_BadFault iC_BadColumns tC_BadColumns bC_BadColumns s_BadFault_BadColumns, e_BadFault_BadFault := exm_own bC_BadFault iC_BadFault tC_BadFault bC_BadFault s_BadFault_BadFault, z_abs := PySem.W.mg_none_of X G z_abs, z_all := PySem.W.mg_none_of X G z_all, z_any := PySem.W.mg_none_of X G z_any, z_bool := PySem.W.mg_none_of X G z_bool, z_enumerate := PySem.W.mg_none_of X G z_enumerate, z_int := PySem.W.mg_none_of X G z_int, z_isinstance := PySem.W.mg_none_of X G z_isinstance, z_len := PySem.W.mg_none_of X G z_len, z_list := PySem.W.mg_none_of X G z_list, z_range := PySem.W.mg_none_of X G z_range, z_set := PySem.W.mg_none_of X G z_set, z_sorted := PySem.W.mg_none_of X G z_sorted, z_str := PySem.W.mg_none_of X G z_str, z_tuple := PySem.W.mg_none_of X G z_tuple, c_MOST_SIDE := ⟨V.int 16, _, PySem.W.mg_of X G g_MOST_SIDE, ⟨_, rfl⟩, .int _⟩, c_SIGNS := ⟨V.str ".\\/LR<>X#", _, PySem.W.mg_of X G g_SIGNS, ⟨_, rfl⟩, .str _⟩, c_SWITCHES := ⟨V.str "LR<>", _, PySem.W.mg_of X G g_SWITCHES, ⟨_, rfl⟩, .str _⟩, c_LINKED := ⟨V.str "<>", _, PySem.W.mg_of X G g_LINKED, ⟨_, rfl⟩, .str _⟩, c_FORM := ⟨.ref t_FORM, _, PySem.W.mg_of X G g_FORM, rfl, .tup (xs := [V.str "form"]) (gc_tup h_FORM rfl rfl z_FORM v_FORM) (.cons (.str _) .nil)⟩, c_OTHERS := ⟨.ref t_OTHERS, _, PySem.W.mg_of X G g_OTHERS, rfl, .dct (.inr h_OTHERS) y_OTHERS ⟨rfl, rfl, by first | rfl | decide +kernel⟩ rfl (by decide +kernel) (by unfold nodupK; decide +kernel) r_OTHERS⟩, c_MOST_MARBLES := ⟨V.int 200, _, PySem.W.mg_of X G g_MOST_MARBLES, ⟨_, rfl⟩, .int _⟩, c_STRAIGHT := ⟨V.int 0, _, PySem.W.mg_of X G g_STRAIGHT, ⟨_, rfl⟩, .int _⟩, c_WAYS := ⟨.ref t_WAYS, _, PySem.W.mg_of X G g_WAYS, rfl, .dct (.inr h_WAYS) y_WAYS ⟨rfl, rfl, by first | rfl | decide +kernel⟩ rfl (by decide +kernel) (by unfold nodupK; decide +kernel) r_WAYS⟩, c_STOP := ⟨V.str "#", _, PySem.W.mg_of X G g_STOP, ⟨_, rfl⟩, .str _⟩, c_CROSSING := ⟨V.str "X", _, PySem.W.mg_of X G g_CROSSING, ⟨_, rfl⟩, .str _⟩, c_SLOPES := ⟨V.str "/\\", _, PySem.W.mg_of X G g_SLOPES, ⟨_, rfl⟩, .str _⟩, c_FREE := ⟨V.str "LR", _, PySem.W.mg_of X G g_FREE, ⟨_, rfl⟩, .str _⟩, c_BENT := ⟨V.str "bent", _, PySem.W.mg_of X G g_BENT, ⟨_, rfl⟩, .str _⟩, c_STUCK := ⟨V.str "stuck", _, PySem.W.mg_of X G g_STUCK, ⟨_, rfl⟩, .str _⟩ }, rfl, fun s v => .of_eq rfl⟩
end PQ

/-! boards as lists of rows of signs: places, setting, groups of linked switches -/
namespace PQ
open PySem PySem.Spec PyProof.Rows L2
abbrev Bd := List (List Nat)
abbrev Pt := Int × Int
structure Sz (b : Bd) (h w : Nat) : Prop where
  len : b.length = h
  row : ∀ r ∈ b, r.length = w
def inR (h w : Nat) (p : Pt) : Prop := 0 ≤ p.1 ∧ p.1 < h ∧ 0 ≤ p.2 ∧ p.2 < w
instance (h w : Nat) (p : Pt) : Decidable (inR h w p) := by unfold inR; infer_instance
def atN (b : Bd) (r c : Nat) : Option Nat := (b[r]?).bind (·[c]?)
def atZ (b : Bd) (p : Pt) : Option Nat := if 0 ≤ p.1 ∧ 0 ≤ p.2 then atN b p.1.toNat p.2.toNat else none
def setN (b : Bd) (r c s : Nat) : Bd := b.set r ((b.getD r []).set c s)
def setZ (b : Bd) (p : Pt) (s : Nat) : Bd := setN b p.1.toNat p.2.toNat s
theorem atN_in {b : Bd} {h w r c : Nat} (S : Sz b h w) (hr : r < h) (hc : c < w) : ∃ row s, b[r]? = some row ∧ row.length = w ∧ row[c]? = some s ∧ atN b r c = some s := by
  have hb : r < b.length := by rw [S.len]; exact hr
  have h1 : b[r]? = some b[r] := List.getElem?_eq_getElem hb
  have hw := S.row _ (List.getElem_mem hb)
  have h2 : (b[r])[c]? = some (b[r])[c] := List.getElem?_eq_getElem (by rw [hw]; exact hc)
  exact ⟨_, _, h1, hw, h2, by unfold atN; rw [h1]; exact h2⟩
theorem atN_out {b : Bd} {h w r c : Nat} (S : Sz b h w) (ho : ¬ (r < h ∧ c < w)) : atN b r c = none := by
  unfold atN
  cases h1 : b[r]? with
  | none => rfl
  | some row =>
    have hr := (List.getElem?_eq_some_iff.mp h1).1
    have hw := S.row _ (List.mem_of_getElem? h1)
    rw [S.len] at hr
    exact List.getElem?_eq_none (by omega)
theorem atZ_in {b : Bd} {h w : Nat} (S : Sz b h w) {p : Pt} (hp : inR h w p) : ∃ row s, b[p.1.toNat]? = some row ∧ row.length = w ∧ row[p.2.toNat]? = some s ∧ atZ b p = some s := by
  obtain ⟨h1, h2, h3, h4⟩ := hp
  obtain ⟨row, s, q1, q2, q3, q4⟩ := atN_in S (r := p.1.toNat) (c := p.2.toNat) (by omega) (by omega)
  exact ⟨row, s, q1, q2, q3, by unfold atZ; rw [if_pos ⟨h1, h3⟩]; exact q4⟩
theorem atZ_out {b : Bd} {h w : Nat} (S : Sz b h w) {p : Pt} (hp : ¬ inR h w p) : atZ b p = none := by
  unfold atZ
  split
  · rename_i q
    exact atN_out S fun z => hp ⟨q.1, by omega, q.2, by omega⟩
  · rfl
theorem atZ_some {b : Bd} {h w : Nat} (S : Sz b h w) {p : Pt} {s : Nat} (e : atZ b p = some s) : inR h w p := by
  by_cases hp : inR h w p
  · exact hp
  · rw [atZ_out S hp] at e; cases e
theorem Sz.setN {b : Bd} {h w r c s : Nat} (S : Sz b h w) : Sz (setN b r c s) h w := by
  refine ⟨by unfold PQ.setN; rw [List.length_set]; exact S.len, fun row hr => ?_⟩
  unfold PQ.setN at hr
  by_cases hb : r < b.length
  · rcases List.mem_or_eq_of_mem_set hr with hr | rfl
    · exact S.row _ hr
    · rw [List.length_set, List.getD_eq_getElem?_getD, List.getElem?_eq_getElem hb]
      exact S.row _ (List.getElem_mem hb)
  · rw [List.set_eq_of_length_le (by omega)] at hr
    exact S.row _ hr
theorem Sz.setZ {b : Bd} {h w : Nat} {p : Pt} {s : Nat} (S : Sz b h w) : Sz (setZ b p s) h w := S.setN
theorem atN_set {b : Bd} {r c s : Nat} {r' c' : Nat} (hin : (atN b r c).isSome) : atN (setN b r c s) r' c' = if r' = r ∧ c' = c then some s else atN b r' c' := by
  obtain ⟨x, hx⟩ := Option.isSome_iff_exists.mp hin
  unfold atN at hx
  rw [Option.bind_eq_some_iff] at hx
  obtain ⟨row, h1, h2⟩ := hx
  have hr := (List.getElem?_eq_some_iff.mp h1).1
  have hc := (List.getElem?_eq_some_iff.mp h2).1
  unfold atN setN
  rw [List.getD_eq_getElem?_getD, h1, Option.getD_some]
  by_cases e : r' = r
  · subst e
    rw [List.getElem?_set_self hr, h1, Option.bind_some, Option.bind_some]
    by_cases e2 : c' = c
    · subst e2
      rw [List.getElem?_set_self hc, if_pos ⟨rfl, rfl⟩]
    · rw [List.getElem?_set_ne (Ne.symm e2), if_neg fun z => e2 z.2]
  · rw [List.getElem?_set_ne (Ne.symm e), if_neg fun z => e z.1]
theorem atZ_set {b : Bd} {h w : Nat} (S : Sz b h w) {p q : Pt} {s : Nat} (hp : inR h w p) : atZ (setZ b p s) q = if q = p then some s else atZ b q := by
  obtain ⟨row, x, _, _, _, e⟩ := atZ_in S hp
  obtain ⟨h1, h2, h3, h4⟩ := hp
  unfold atZ at e
  rw [if_pos ⟨h1, h3⟩] at e
  unfold atZ setZ
  by_cases hq : 0 ≤ q.1 ∧ 0 ≤ q.2
  · rw [if_pos hq, if_pos hq, atN_set (by rw [e]; rfl)]
    by_cases hqp : q = p
    · subst hqp; rw [if_pos ⟨rfl, rfl⟩, if_pos rfl]
    · rw [if_neg hqp, if_neg]
      rintro ⟨z1, z2⟩
      exact hqp (Prod.ext (by omega) (by omega))
  · rw [if_neg hq, if_neg hq, if_neg]
    rintro rfl
    exact hq ⟨h1, h3⟩
/-- boards of one size with the same signs are equal -/
theorem bd_ext {b b' : Bd} {h w : Nat} (S : Sz b h w) (S' : Sz b' h w) (e : ∀ p, inR h w p → atZ b p = atZ b' p) : b = b' := by
  apply List.ext_getElem (by rw [S.len, S'.len])
  intro r h1 h2
  have w1 := S.row _ (List.getElem_mem h1)
  have w2 := S'.row _ (List.getElem_mem h2)
  apply List.ext_getElem (by rw [w1, w2])
  intro c h3 h4
  have hr : r < h := by rw [← S.len]; exact h1
  have := e ((r : Int), (c : Int)) ⟨by show (0 : Int) ≤ r; omega, by show (r : Int) < h; omega, by show (0 : Int) ≤ c; omega, by show (c : Int) < w; omega⟩
  unfold atZ at this
  rw [if_pos ⟨by show (0 : Int) ≤ r; omega, by show (0 : Int) ≤ c; omega⟩, if_pos ⟨by show (0 : Int) ≤ r; omega, by show (0 : Int) ≤ c; omega⟩] at this
  have this : atN b r c = atN b' r c := this
  unfold atN at this
  rw [List.getElem?_eq_getElem h1, List.getElem?_eq_getElem h2, Option.bind_some, Option.bind_some, List.getElem?_eq_getElem h3, List.getElem?_eq_getElem h4] at this
  exact Option.some.inj this
/-! ### groups -/
def lnk (s : Nat) : Bool := s == 60 || s == 62
def swt (s : Nat) : Bool := s == 76 || s == 82 || lnk s
def lnkP (b : Bd) (p : Pt) : Bool := match atZ b p with
  | some s => lnk s
  | none => false
def nbrs (p : Pt) : List Pt := [(p.1 + 1, p.2), (p.1 - 1, p.2), (p.1, p.2 + 1), (p.1, p.2 - 1)]
def vis1 (q : Pt → Bool) (st : List Pt × List Pt) (n : Pt) : List Pt × List Pt := if !decide (n ∈ st.1) && q n then (st.1 ++ [n], st.2 ++ [n]) else st
def bfs (q : Pt → Bool) : Nat → List Pt → List Pt → List Pt
  | 0, f, _ => f
  | n + 1, f, ws => match ws.getLast? with
    | none => f
    | some x => bfs q n ((nbrs x).foldl (vis1 q) (f, ws.dropLast)).1 ((nbrs x).foldl (vis1 q) (f, ws.dropLast)).2
def addP (d p : Pt) : Pt := (p.1 + d.1, p.2 + d.2)
theorem addP_inj {d p q : Pt} : addP d p = addP d q ↔ p = q := by
  constructor
  · intro h
    have h1 := congrArg Prod.fst h
    have h2 := congrArg Prod.snd h
    unfold addP at h1 h2
    simp only at h1 h2
    exact Prod.ext (by omega) (by omega)
  · rintro rfl; rfl
theorem nbrs_add (d p : Pt) : nbrs (addP d p) = (nbrs p).map (addP d) := by
  unfold nbrs addP
  simp only [List.map_cons, List.map_nil]
  congr 1
  · exact Prod.ext (by show p.1 + d.1 + 1 = p.1 + 1 + d.1; omega) rfl
  congr 1
  · exact Prod.ext (by show p.1 + d.1 - 1 = p.1 - 1 + d.1; omega) rfl
  congr 1
  · exact Prod.ext rfl (by show p.2 + d.2 + 1 = p.2 + 1 + d.2; omega)
  congr 1
  · exact Prod.ext rfl (by show p.2 + d.2 - 1 = p.2 - 1 + d.2; omega)
theorem mem_add {d p : Pt} {l : List Pt} : addP d p ∈ l.map (addP d) ↔ p ∈ l := by
  rw [List.mem_map]
  constructor
  · rintro ⟨q, hq, e⟩; rw [← addP_inj.mp e]; exact hq
  · intro h; exact ⟨p, h, rfl⟩
theorem vis_fold {q q' : Pt → Bool} {d : Pt} : ∀ (ns : List Pt) (f ws : List Pt), (∀ n ∈ ns, q' (addP d n) = q n) →
    (ns.map (addP d)).foldl (vis1 q') (f.map (addP d), ws.map (addP d)) = (((ns.foldl (vis1 q) (f, ws)).1.map (addP d)), ((ns.foldl (vis1 q) (f, ws)).2.map (addP d)))
  | [], f, ws, _ => rfl
  | n :: ns, f, ws, h => by
    rw [List.map_cons, List.foldl_cons, List.foldl_cons]
    have e : vis1 q' (f.map (addP d), ws.map (addP d)) (addP d n) = ((vis1 q (f, ws) n).1.map (addP d), (vis1 q (f, ws) n).2.map (addP d)) := by
      unfold vis1
      simp only [mem_add, h n List.mem_cons_self]
      split <;> simp
    rw [e]
    exact vis_fold ns _ _ fun m hm => h m (List.mem_cons_of_mem _ hm)
/-- what is visited meets R -/
theorem vis_mem {q : Pt → Bool} {R : Pt → Prop} : ∀ (ns : List Pt) (f ws : List Pt), (∀ n ∈ ns, q n = true → R n) → (∀ x ∈ f, R x) → (∀ x ∈ ws, R x) → (∀ x ∈ (ns.foldl (vis1 q) (f, ws)).1, R x) ∧ (∀ x ∈ (ns.foldl (vis1 q) (f, ws)).2, R x)
  | [], f, ws, _, h1, h2 => ⟨h1, h2⟩
  | n :: ns, f, ws, h, h1, h2 => by
    rw [List.foldl_cons]
    unfold vis1
    split
    · rename_i e
      rw [Bool.and_eq_true] at e
      have hn := h n List.mem_cons_self e.2
      exact vis_mem ns _ _ (fun m hm => h m (List.mem_cons_of_mem _ hm)) (fun x hx => by rcases List.mem_append.mp hx with hx | hx; exact h1 x hx; rw [List.mem_singleton.mp hx]; exact hn)
        (fun x hx => by rcases List.mem_append.mp hx with hx | hx; exact h2 x hx; rw [List.mem_singleton.mp hx]; exact hn)
    · exact vis_mem ns _ _ (fun m hm => h m (List.mem_cons_of_mem _ hm)) h1 h2
theorem bfs_mem {q : Pt → Bool} {R : Pt → Prop} (hq : ∀ n, q n = true → R n) : ∀ (n : Nat) (f ws : List Pt), (∀ x ∈ f, R x) → (∀ x ∈ ws, R x) → ∀ x ∈ bfs q n f ws, R x
  | 0, f, ws, h1, _ => h1
  | n + 1, f, ws, h1, h2 => by
    unfold bfs
    split
    · exact h1
    · rename_i x hx
      have g := vis_mem (R := R) (nbrs x) f ws.dropLast (fun m _ => hq m) h1 (fun y hy => h2 y ((List.dropLast_sublist _).subset hy))
      exact bfs_mem hq n _ _ g.1 g.2
theorem vis_mem2 {q : Pt → Bool} {R : Pt → Prop} : ∀ (ns : List Pt) (f ws : List Pt), (∀ n ∈ ns, q n = true → R n) → (∀ x ∈ ws, R x) → (∀ x ∈ (ns.foldl (vis1 q) (f, ws)).2, R x)
  | [], f, ws, _, h2 => h2
  | n :: ns, f, ws, h, h2 => by
    rw [List.foldl_cons]
    unfold vis1
    split
    · rename_i e
      rw [Bool.and_eq_true] at e
      have hn := h n List.mem_cons_self e.2
      exact vis_mem2 ns _ _ (fun m hm => h m (List.mem_cons_of_mem _ hm)) (fun x hx => by rcases List.mem_append.mp hx with hx | hx; exact h2 x hx; rw [List.mem_singleton.mp hx]; exact hn)
    · exact vis_mem2 ns _ _ (fun m hm => h m (List.mem_cons_of_mem _ hm)) h2
theorem bfs_add {q q' : Pt → Bool} {d : Pt} {R : Pt → Prop} (hR : ∀ x, R x → ∀ n ∈ nbrs x, q' (addP d n) = q n) (hq : ∀ n, q n = true → R n) : ∀ (n : Nat) (f ws : List Pt), (∀ x ∈ ws, R x) → bfs q' n (f.map (addP d)) (ws.map (addP d)) = (bfs q n f ws).map (addP d)
  | 0, f, ws, _ => rfl
  | n + 1, f, ws, h => by
    unfold bfs
    rw [List.getLast?_map]
    cases e : ws.getLast? with
    | none => rfl
    | some x =>
      show bfs q' n ((nbrs (addP d x)).foldl (vis1 q') (f.map (addP d), (ws.map (addP d)).dropLast)).1 ((nbrs (addP d x)).foldl (vis1 q') (f.map (addP d), (ws.map (addP d)).dropLast)).2 = (bfs q n ((nbrs x).foldl (vis1 q) (f, ws.dropLast)).1 ((nbrs x).foldl (vis1 q) (f, ws.dropLast)).2).map (addP d)
      have hx : R x := h x (List.mem_of_getLast? e)
      have g := vis_fold (q := q) (q' := q') (d := d) (nbrs x) f ws.dropLast (hR x hx)
      rw [nbrs_add, ← List.map_dropLast, g]
      exact bfs_add hR hq n _ _ (vis_mem2 (nbrs x) f ws.dropLast (fun m _ => hq m) fun y hy => h y ((List.dropLast_sublist _).subset hy))
/-! ### it ends -/
def cells (h w : Nat) : List Pt := (List.range h).flatMap fun (r : Nat) => (List.range w).map fun (c : Nat) => (((r : Int), (c : Int)) : Pt)
theorem mem_cells {h w : Nat} {p : Pt} : p ∈ cells h w ↔ inR h w p := by
  unfold cells inR
  simp only [List.mem_flatMap, List.mem_range, List.mem_map]
  constructor
  · rintro ⟨r, hr, c, hc, rfl⟩
    exact ⟨by show (0 : Int) ≤ r; omega, by show (r : Int) < h; omega, by show (0 : Int) ≤ c; omega, by show (c : Int) < w; omega⟩
  · rintro ⟨h1, h2, h3, h4⟩
    exact ⟨p.1.toNat, by omega, p.2.toNat, by omega, Prod.ext (by show (p.1.toNat : Int) = p.1; omega) (by show (p.2.toNat : Int) = p.2; omega)⟩
theorem cells_len (h w : Nat) : (cells h w).length = h * w := by
  unfold cells
  rw [List.length_flatMap]
  simp [List.map_const']
def todo (q : Pt → Bool) (h w : Nat) (f : List Pt) : Nat := (cells h w).countP fun x => q x && !decide (x ∈ f)
theorem countP_lt {α : Type} {P Q : α → Bool} (hPQ : ∀ x, Q x = true → P x = true) {n : α} (h1 : P n = true) (h2 : Q n = false) : ∀ {l : List α}, n ∈ l → l.countP Q + 1 ≤ l.countP P
  | [], h => by cases h
  | x :: l, h => by
    rw [List.countP_cons, List.countP_cons]
    have mono : l.countP Q ≤ l.countP P := List.countP_mono_left fun x _ => hPQ x
    rcases List.mem_cons.mp h with rfl | h
    · rw [h1, h2]; simp; omega
    · have ih := countP_lt hPQ h1 h2 h
      cases e : Q x with
      | false => simp; split <;> omega
      | true => rw [hPQ x e]; simp; omega
theorem todo_push {q : Pt → Bool} {h w : Nat} {f : List Pt} {n : Pt} (hq : ∀ x, q x = true → inR h w x) (h1 : n ∉ f) (h2 : q n = true) : todo q h w (f ++ [n]) + 1 ≤ todo q h w f := by
  unfold todo
  refine countP_lt (fun x hx => ?_) (n := n) ?_ ?_ (mem_cells.mpr (hq n h2))
  · simp only [Bool.and_eq_true, Bool.not_eq_true', decide_eq_false_iff_not, List.mem_append] at hx ⊢
    exact ⟨hx.1, fun z => hx.2 (.inl z)⟩
  · simp [h1, h2]
  · simp
theorem vis_todo {q : Pt → Bool} {h w : Nat} (hq : ∀ x, q x = true → inR h w x) : ∀ (ns : List Pt) (f ws : List Pt), let r := ns.foldl (vis1 q) (f, ws)
    r.2.length + todo q h w r.1 ≤ ws.length + todo q h w f ∧ r.1.length + todo q h w r.1 ≤ f.length + todo q h w f
  | [], f, ws => ⟨Nat.le_refl _, Nat.le_refl _⟩
  | n :: ns, f, ws => by
    rw [List.foldl_cons]
    by_cases e : (!decide (n ∈ f) && q n) = true
    · have ev : vis1 q (f, ws) n = (f ++ [n], ws ++ [n]) := if_pos e
      rw [ev]
      rw [Bool.and_eq_true] at e
      have p := todo_push (h := h) (w := w) (f := f) hq (by simpa using e.1) e.2
      obtain ⟨a, b⟩ := vis_todo hq ns (f ++ [n]) (ws ++ [n])
      simp only [List.length_append, List.length_cons, List.length_nil] at a b
      exact ⟨by omega, by omega⟩
    · have ev : vis1 q (f, ws) n = (f, ws) := if_neg e
      rw [ev]
      exact vis_todo hq ns f ws
theorem todo_le (q : Pt → Bool) (h w : Nat) (f : List Pt) : todo q h w f ≤ h * w := by
  rw [← cells_len]; exact List.countP_le_length
/-! ### setting, turning -/
def oth (s : Nat) : Nat := if s = 76 then 82 else if s = 82 then 76 else if s = 60 then 62 else if s = 62 then 60 else s
def turn1 (b : Bd) (p : Pt) : Bd := match atZ b p with
  | some s => setZ b p (oth s)
  | none => b
def turns (b : Bd) (ps : List Pt) : Bd := ps.foldl turn1 b
theorem Sz.turn1 {b : Bd} {h w : Nat} {p : Pt} (S : Sz b h w) : Sz (turn1 b p) h w := by
  unfold PQ.turn1
  split
  · exact S.setZ
  · exact S
theorem Sz.turns {h w : Nat} : ∀ {ps : List Pt} {b : Bd}, Sz b h w → Sz (turns b ps) h w
  | [], b, S => S
  | p :: ps, b, S => Sz.turns (ps := ps) S.turn1
def ptLe (a b : Pt) : Bool := decide (a.1 < b.1 ∨ (a.1 = b.1 ∧ a.2 ≤ b.2))
def srt (l : List Pt) : List Pt := l.mergeSort ptLe
theorem srt_add (d : Pt) (l : List Pt) : srt (l.map (addP d)) = (srt l).map (addP d) := by
  unfold srt
  rw [List.map_mergeSort]
  intro a _ b _
  unfold ptLe addP
  apply decide_eq_decide.mpr
  simp only
  omega
def fuelG : Nat := 300
def grp (b : Bd) (p : Pt) : List Pt := srt (bfs (lnkP b) fuelG [p] [p])
def behd (b : Bd) (p : Pt) : Bd := match atZ b p with
  | some s => if swt s = true then (if lnk s = true then turns b (grp b p) else turns b [p]) else b
  | none => b
theorem lnkP_in {b : Bd} {h w : Nat} (S : Sz b h w) {p : Pt} (e : lnkP b p = true) : inR h w p := by
  unfold lnkP at e
  split at e
  · rename_i s q; exact atZ_some S q
  · cases e
theorem grp_in {b : Bd} {h w : Nat} (S : Sz b h w) {p : Pt} (hp : inR h w p) : ∀ x ∈ grp b p, inR h w x := by
  intro x hx
  unfold grp srt at hx
  rw [List.mem_mergeSort] at hx
  exact bfs_mem (R := inR h w) (fun n hn => lnkP_in S hn) _ _ _ (fun y hy => by rw [List.mem_singleton.mp hy]; exact hp) (fun y hy => by rw [List.mem_singleton.mp hy]; exact hp) x hx
theorem grp_lnk {b : Bd} {p : Pt} (hp : lnkP b p = true) : ∀ x ∈ grp b p, lnkP b x = true := by
  intro x hx
  unfold grp srt at hx
  rw [List.mem_mergeSort] at hx
  exact bfs_mem (R := fun x => lnkP b x = true) (fun n hn => hn) _ _ _ (fun y hy => by rw [List.mem_singleton.mp hy]; exact hp) (fun y hy => by rw [List.mem_singleton.mp hy]; exact hp) x hx
theorem Sz.behd {b : Bd} {h w : Nat} {p : Pt} (S : Sz b h w) : Sz (behd b p) h w := by
  unfold PQ.behd
  split
  · split
    · split
      · exact S.turns
      · exact S.turns
    · exact S
  · exact S
/-! ### a board within another -/
structure Emb (E : Bd → Bd) (h w : Nat) (d : Pt) : Prop where
  get : ∀ b, Sz b h w → ∀ p, inR h w p → atZ (E b) (addP d p) = atZ b p
  set : ∀ b, Sz b h w → ∀ p s, inR h w p → E (setZ b p s) = setZ (E b) (addP d p) s
  bord : ∀ b, Sz b h w → ∀ p, inR h w p → ∀ n ∈ nbrs p, ¬ inR h w n → lnkP (E b) (addP d n) = false
section
variable {E : Bd → Bd} {h w : Nat} {d : Pt}
theorem Emb.turn1 (M : Emb E h w d) {b : Bd} (S : Sz b h w) {p : Pt} (hp : inR h w p) : PQ.turn1 (E b) (addP d p) = E (PQ.turn1 b p) := by
  obtain ⟨row, s, _, _, _, e⟩ := atZ_in S hp
  unfold PQ.turn1
  rw [M.get b S p hp, e]
  exact (M.set b S p _ hp).symm
theorem Emb.turns (M : Emb E h w d) : ∀ {ps : List Pt} {b : Bd}, Sz b h w → (∀ p ∈ ps, inR h w p) → PQ.turns (E b) (ps.map (addP d)) = E (PQ.turns b ps)
  | [], b, S, _ => rfl
  | p :: ps, b, S, hp => by
    show PQ.turns (PQ.turn1 (E b) (addP d p)) (ps.map (addP d)) = E (PQ.turns (PQ.turn1 b p) ps)
    rw [M.turn1 S (hp p List.mem_cons_self)]
    exact M.turns S.turn1 fun q hq => hp q (List.mem_cons_of_mem _ hq)
theorem Emb.lnk (M : Emb E h w d) {b : Bd} (S : Sz b h w) {p : Pt} (hp : inR h w p) : ∀ n ∈ nbrs p, lnkP (E b) (addP d n) = lnkP b n := by
  intro n hn
  by_cases hi : inR h w n
  · unfold lnkP; rw [M.get b S n hi]
  · rw [M.bord b S p hp n hn hi]
    cases e : lnkP b n with
    | false => rfl
    | true => exact absurd (lnkP_in S e) hi
theorem Emb.grp (M : Emb E h w d) {b : Bd} (S : Sz b h w) {p : Pt} (hp : inR h w p) : PQ.grp (E b) (addP d p) = (PQ.grp b p).map (addP d) := by
  unfold PQ.grp
  rw [← srt_add, ← bfs_add (q := lnkP b) (q' := lnkP (E b)) (d := d) (R := inR h w) (fun x hx => M.lnk S hx) (fun n hn => lnkP_in S hn) fuelG [p] [p] (fun y hy => by rw [List.mem_singleton.mp hy]; exact hp)]
  rfl
theorem Emb.behd (M : Emb E h w d) {b : Bd} (S : Sz b h w) {p : Pt} (hp : inR h w p) : PQ.behd (E b) (addP d p) = E (PQ.behd b p) := by
  unfold PQ.behd
  rw [M.get b S p hp]
  split
  · split
    · split
      · rw [M.grp S hp, M.turns S (grp_in S hp)]
      · exact M.turns (ps := [p]) S fun q hq => by rw [List.mem_singleton.mp hq]; exact hp
    · rfl
  · rfl
end
end PQ

/-! what the program's functions of boards compute -/
namespace PQ
open PySem PySem.Spec PyProof.Rows L2
open PySem.W (alike alikeAll dataLt dataLe)
/-! ### signs and rows as texts -/
abbrev sgS (s : Nat) : D := .str ⟨#[s]⟩
def rowT (r : List Nat) : Str := ⟨r.toArray⟩
@[simp] theorem rowT_len (r : List Nat) : (rowT r).length = r.length := by show r.toArray.size = _; simp
@[simp] theorem rowT_cps (r : List Nat) : (rowT r).cps.toList = r := by show r.toArray.toList = _; simp
@[simp] theorem rowT_signs (r : List Nat) : signs (rowT r) = r.map sgS := by unfold signs; rw [rowT_cps]
theorem rowT_inj {a b : List Nat} : rowT a = rowT b ↔ a = b := by
  constructor
  · intro h
    have := congrArg (fun s : Str => s.cps.toList) h
    simpa using this
  · rintro rfl; rfl
def bdD (b : Bd) : D := .tuple (b.map fun r => .str (rowT r))
def ptD (p : Pt) : D := .tuple [.int p.1, .int p.2]
theorem str_beq {a b : Str} : (a == b) = decide (a = b) := by
  by_cases h : a = b
  · subst h; simp
  · simp [h]
theorem sg_eq (a b : Nat) : ((⟨#[a]⟩ : Str) == ⟨#[b]⟩) = (a == b) := by
  rw [str_beq]
  by_cases h : a = b
  · subst h; simp
  · have : (⟨#[a]⟩ : Str) ≠ ⟨#[b]⟩ := fun z => h (by have := congrArg (fun s : Str => s.cps.toList) z; simpa using this)
    rw [decide_eq_false this]; simp [h]
def sgns : List Nat := [46, 92, 47, 76, 82, 60, 62, 88, 35]
theorem l_signs : (Str.ofString ".\\/LR<>X#").cps.toList = sgns := by decide +kernel
theorem l_switches : (Str.ofString "LR<>").cps.toList = [76, 82, 60, 62] := by decide +kernel
theorem l_linked : (Str.ofString "<>").cps.toList = [60, 62] := by decide +kernel
theorem l_hash : (Str.ofString "#") = ⟨#[35]⟩ := by decide +kernel
theorem l_X : (Str.ofString "X") = ⟨#[88]⟩ := by decide +kernel
theorem l_dot : (Str.ofString ".") = ⟨#[46]⟩ := by decide +kernel
theorem atI_int {α : Type} {l : List α} {i : Int} {a : α} (h0 : 0 ≤ i) (h : l[i.toNat]? = some a) : atI l i = some a := by
  have := atI_nat h
  rwa [show ((i.toNat : Nat) : Int) = i by omega] at this
theorem ixN_int {n : Nat} {i : Int} (h0 : 0 ≤ i) (h : i < n) : ixN n i = some i.toNat := by
  unfold ixN; rw [if_pos h0, if_pos h]
structure BOk (b : Bd) (h w : Nat) : Prop where
  sz : Sz b h w
  h1 : 1 ≤ h
  h2 : h ≤ 16
  w1 : 1 ≤ w
  w2 : w ≤ 16
  sg : ∀ r ∈ b, ∀ s ∈ r, s ∈ sgns
@[simp] theorem bd_seq (b : Bd) : seqOf (bdD b) = .ok (b.map fun r => .str (rowT r)) := id rfl
@[simp] theorem bd_tup (b : Bd) : dIsi' "tuple" (bdD b) = .ok (.bool true) := id rfl
@[simp] theorem pt_0 (p : Pt) : dIxD (ptD p) (.int 0) = .ok (.int p.1) := by rw [ptD, x_ixDT, atI_0]; rfl
@[simp] theorem pt_1 (p : Pt) : dIxD (ptD p) (.int 1) = .ok (.int p.2) := by rw [ptD, x_ixDT, atI_1]; rfl
section
variable {b : Bd} {h w : Nat}
theorem BOk.first (B : BOk b h w) : ∃ row bs, b = row :: bs ∧ row.length = w := by
  cases b with
  | nil => have e := B.sz.len; have := B.h1; rw [List.length_nil] at e; omega
  | cons r bs => exact ⟨r, bs, rfl, B.sz.row _ List.mem_cons_self⟩
theorem fits16 {n : Nat} (h : n ≤ 16) : fits n = true := decide_eq_true (by omega)
theorem fits_k {n : Nat} (h : n ≤ 100000) : fits n = true := decide_eq_true (by omega)
theorem BOk.len (B : BOk b h w) : dLenD [bdD b] = .ok (.int h) := by
  show R.ok (PyData.int _) = _
  rw [List.length_map, B.sz.len]
theorem BOk.row0 (B : BOk b h w) : ∃ row, row.length = w ∧ dIxD (bdD b) (.int 0) = .ok (.str (rowT row)) ∧ dLenD [.str (rowT row)] = .ok (.int w) := by
  obtain ⟨row, bs, rfl, hl⟩ := B.first
  refine ⟨row, hl, ?_, ?_⟩
  · rw [bdD, x_ixDT, List.map_cons, atI_0]; rfl
  · rw [x_dLenDS, rowT_len, hl, guardR_of (fits16 B.w2)]
theorem f_is_whole (i lo hi : Int) : F_is_whole [.int i, .int lo, .int hi] = .ok (.bool (decide (lo ≤ i ∧ i ≤ hi))) := by
  show runD 3 S_is_whole _ = _
  by_cases h1 : lo ≤ i <;> by_cases h2 : i ≤ hi <;> simp [runD, S_is_whole, isaB, tyName, h1, h2]
theorem dAll_map (bs : List Bool) : dAll [.list (bs.map .bool)] = .ok (.bool (bs.all id)) := by
  show (bools (bs.map .bool) >>= _) = _
  rw [bools_map]; rfl
theorem enum_get {ds : List D} {j : Nat} {d : D} (e : (enumD ds)[j]? = some d) : ∃ x, ds[j]? = some x ∧ d = .tuple [.int (j : Nat), x] := by
  obtain ⟨x, h1, h2⟩ := enumFrom_get ds 0 j d e
  exact ⟨x, h1, by rw [h2, Nat.zero_add]⟩
theorem enum_mem {ds : List D} {d : D} (e : d ∈ enumD ds) : ∃ (j : Nat) (x : D), x ∈ ds ∧ d = .tuple [.int (j : Nat), x] := by
  obtain ⟨j, hj⟩ := List.getElem?_of_mem e
  obtain ⟨x, h1, h2⟩ := enum_get hj
  exact ⟨j, x, List.mem_of_getElem? h1, h2⟩
theorem all_true {α : Type} (l : List α) : dAll [.list (l.map fun _ => PyData.bool true)] = .ok (.bool true) := by
  have := dAll_map (l.map fun _ => true)
  rw [List.map_map] at this
  exact this.trans (by simp)
theorem comp_none {step : D → R (Option D)} {ds : List D} (h : ∀ d ∈ ds, step d = .ok none) : compR step ds = .ok [] := by
  rw [compR_ok (f := fun _ => none) h]
  congr 1
  induction ds with
  | nil => rfl
  | cons d ds ih => exact ih fun e he => h e (List.mem_cons_of_mem _ he)
theorem f_board_fault (B : BOk b h w) : F_board_fault [bdD b] = .ok .none := by
  obtain ⟨row0, hl0, q0, q1⟩ := B.row0
  have hh1 := B.h1
  have hh2 := B.h2
  have hw1 := B.w1
  have hw2 := B.w2
  have c1 : compR (cStep (aName 2) tTrue (e1 (dIsi' "str") (eVar 2)) [.f (bdD b), .u, .u, .u, .u, .u]) (b.map fun r => .str (rowT r)) = .ok (b.map fun _ => .bool true) :=
    compR_all (fun r => PyData.str (rowT r)) (fun _ => .bool true) b fun r hr => by simp [cStep, isaB, tyName]
  have c2 : compR (cStep (aName 2) tTrue (e2 dEq (eA dLenD (eCons (eVar 2) eNil)) (eA dLenD (eCons (e2 dIxD (eVar 0) (eInt 0)) eNil))) [.f (bdD b), .u, .u, .u, .u, .u]) (b.map fun r => .str (rowT r)) = .ok (b.map fun _ => .bool true) :=
    compR_all (fun r => PyData.str (rowT r)) (fun _ => .bool true) b fun r hr => by simp [cStep, q0, q1, B.sz.row r hr, fits16 hw2]
  have lp : forL (aTup (aCons (aName 1) (aCons (aName 2) aNil))) B_board_fault_1 [0, 1, 2, 3, 4, 5] (enumD (b.map fun r => .str (rowT r))) [.u, .u, .u, .u, .u, .u] = .nx [.u, .u, .u, .u, .u, .u] := by
    refine forL_const _ fun d hd => ?_
    obtain ⟨j, x, hx, rfl⟩ := enum_mem hd
    obtain ⟨r, hr, rfl⟩ := List.mem_map.mp hx
    have hlen : (enumD (r.map sgS)).length = r.length := by rw [enumD_len, List.length_map]
    have cc : compR (cStep (aTup (aCons (aName 4) (aCons (aName 5) aNil))) (tV (e2 dNotInD (eVar 5) (eD c_SIGNS))) (eVar 4) [.u, .f (.int j), .f (.str (rowT r)), .u, .u, .u]) (enumD (r.map sgS)) = .ok [] := by
      refine comp_none fun d hd => ?_
      obtain ⟨j, x, hx, rfl⟩ := enum_mem hd
      obtain ⟨s, hs, rfl⟩ := List.mem_map.mp hx
      have := B.sg r hr s hs
      simp [cStep, l_signs, this]
    refine ⟨[.u, .f (.int j), .f (.str (rowT r)), .u, .u, .u], [.u, .f (.int j), .f (.str (rowT r)), .f (.list []), .u, .u], rfl, ?_, rfl⟩
    simp [B_board_fault_1, hlen, B.sz.row r hr, fits16 hw2, cc]
  show runD 6 S_board_fault [bdD b] = _
  have f1 : ((1 : Int) ≤ (h : Int)) := by omega
  have f2 : ((h : Int) ≤ 16) := by omega
  have f3 : ((1 : Int) ≤ (w : Int)) := by omega
  have f4 : ((w : Int) ≤ 16) := by omega
  simp [runD, S_board_fault, B.len, q0, q1, B.sz.len, fits16 hh2, c1, c2, all_true, lp, f1, f2, f3, f4]
theorem f_check_board (B : BOk b h w) : F_check_board [bdD b] = .ok .none := by
  have e := f_board_fault B
  show runD 1 S_check_board _ = _
  simp [runD, S_check_board, e]
/-! ### groups -/
theorem f_place (B : BOk b h w) (n : Pt) : F_is_place [bdD b, ptD n] = .ok (.bool (decide (inR h w n))) := by
  obtain ⟨row0, hl0, q0, q1⟩ := B.row0
  show runD 2 S_is_place _ = _
  unfold inR
  by_cases h1 : 0 ≤ n.1 <;> by_cases h2 : n.1 < h <;> by_cases h3 : 0 ≤ n.2 <;> by_cases h4 : n.2 < w <;> simp [runD, S_is_place, B.len, q0, q1, h1, h2, h3, h4]
theorem at_row (B : BOk b h w) {p : Pt} (hp : inR h w p) {row : List Nat} (hr : b[p.1.toNat]? = some row) : dIxD (bdD b) (.int p.1) = .ok (.str (rowT row)) := by
  rw [bdD, x_ixDT, atI_int (a := .str (rowT row)) hp.1 (by rw [List.getElem?_map, hr]; rfl)]; rfl
theorem at_sign {row : List Nat} {w : Nat} {c : Int} {s : Nat} (h0 : 0 ≤ c) (hw : w ≤ 16) (hl : row.length = w) (hs : row[c.toNat]? = some s) : dIxD (.str (rowT row)) (.int c) = .ok (sgS s) := by
  rw [x_ixDS, rowT_cps, rowT_len, atI_int h0 hs, hl]; show guardR _ _ = _; rw [guardR_of (fits16 hw)]
theorem okK_pts (f : List Pt) (n : Pt) (v : Pt → D) : okK (f.map fun p => (ptD p, v p)) (ptD n) = true := by
  unfold okK okKs
  rw [Bool.or_eq_true]
  right
  rw [List.all_eq_true]
  intro x hx
  rcases List.mem_cons.mp hx with rfl | hx
  · rfl
  · rw [List.map_map] at hx
    obtain ⟨p, _, rfl⟩ := List.mem_map.mp hx
    rfl
theorem sameK_pt (a c : Pt) : sameK (ptD a) (ptD c) = decide (a = c) := by
  have e : ∀ p : Pt, keyD (ptD p) = some (.tup [.num p.1, .num p.2]) := fun p => rfl
  unfold sameK
  rw [e, e]
  apply decide_eq_decide.mpr
  constructor
  · intro h; simp at h; exact Prod.ext h.1 h.2
  · rintro rfl; rfl
theorem find_pts (f : List Pt) (n : Pt) (v : Pt → D) : (dFind (f.map fun p => (ptD p, v p)) (ptD n)) = if n ∈ f then some (v n) else none := by
  unfold dFind
  induction f with
  | nil => rfl
  | cons p f ih =>
    rw [List.map_cons, List.find?_cons]
    show (match sameK (ptD p) (ptD n) with | true => some (ptD p, v p) | false => _).map _ = _
    rw [sameK_pt]
    by_cases e : p = n
    · subst e; simp
    · rw [decide_eq_false e]
      show (List.find? _ _).map _ = _
      rw [ih]
      simp [Ne.symm e]
theorem put_pts (f : List Pt) (n : Pt) (v : D) (hn : n ∉ f) : dPutL (f.map fun p => (ptD p, v)) (ptD n) v = (f ++ [n]).map fun p => (ptD p, v) := by
  unfold dPutL
  rw [if_neg, List.map_append]
  · rfl
  · rw [List.any_eq_true]
    rintro ⟨x, hx, e⟩
    obtain ⟨p, hp, rfl⟩ := List.mem_map.mp hx
    rw [sameK_pt] at e
    exact hn (of_decide_eq_true e ▸ hp)
abbrev fD (f : List Pt) : List (D × D) := f.map fun p => (ptD p, .bool true)
def gS (b : Bd) (f ws : List Pt) : Rho := [.f (bdD b), .u, .o (.dict (fD f)), .o (.list (ws.map ptD)), .u, .u, .u]
theorem lnk_mem (s : Nat) : decide (s ∈ [60, 62]) = lnk s := by
  unfold lnk
  simp
  by_cases h1 : s = 60 <;> by_cases h2 : s = 62 <;> simp [h1, h2]
theorem in_linked (s : Nat) : dInD (.str ⟨#[s]⟩) (.str (Str.ofString "<>")) = .ok (.bool (lnk s)) := by rw [x_inDS, l_linked, lnk_mem]
theorem notIn_switches (s : Nat) : dNotInD (.str ⟨#[s]⟩) (.str (Str.ofString "LR<>")) = .ok (.bool (!swt s)) := by
  rw [x_notInDS, l_switches]
  congr 3
  unfold swt lnk
  by_cases h1 : s = 76 <;> by_cases h2 : s = 82 <;> by_cases h3 : s = 60 <;> by_cases h4 : s = 62 <;> simp [h1, h2, h3, h4]
theorem grp_vis (B : BOk b h w) {f ws : List Pt} {n : Pt} (hf : f.length ≤ 1000) (hw : ws.length ≤ 1000) :
    B_group_at_1 [.f (bdD b), .u, .o (.dict (fD f)), .o (.list (ws.map ptD)), .f (ptD n), .u, .u] = .nx [.f (bdD b), .u, .o (.dict (fD (vis1 (lnkP b) (f, ws) n).1)), .o (.list ((vis1 (lnkP b) (f, ws) n).2.map ptD)), .f (ptD n), .u, .u] := by
  have k1 := okK_pts f n fun _ => .bool true
  have k2 := find_pts f n fun _ => .bool true
  have k3 : fits (f.length + 1) = true := fits_k (by omega)
  have k4 : fits (ws.length + 1) = true := fits_k (by omega)
  by_cases hn : n ∈ f
  · rw [if_pos hn] at k2
    have e : vis1 (lnkP b) (f, ws) n = (f, ws) := by unfold vis1; simp [hn]
    rw [e]
    simp [B_group_at_1, k1, k2]
  · rw [if_neg hn] at k2
    by_cases hp : inR h w n
    · obtain ⟨row, s, a1, a2, a3, a4⟩ := atZ_in B.sz hp
      have g1 := at_row B hp a1
      have g2 := at_sign hp.2.2.1 B.w2 a2 a3
      have el : lnkP b n = lnk s := by unfold lnkP; rw [a4]
      cases hs : lnk s with
      | false =>
        have e : vis1 (lnkP b) (f, ws) n = (f, ws) := by unfold vis1; simp [el, hs]
        rw [e]
        simp [-x_inDS, B_group_at_1, k1, k2, f_place B, hp, g1, g2, in_linked, hs]
      | true =>
        have e : vis1 (lnkP b) (f, ws) n = (f ++ [n], ws ++ [n]) := by unfold vis1; simp [el, hs, hn]
        rw [e]
        have k5 := put_pts f n (.bool true) hn
        simp [-x_inDS, B_group_at_1, k1, k2, f_place B, hp, g1, g2, in_linked, hs, k3, k4, k5]
    · have el : lnkP b n = false := by
        cases q : lnkP b n with
        | false => rfl
        | true => exact absurd (lnkP_in B.sz q) hp
      have e : vis1 (lnkP b) (f, ws) n = (f, ws) := by unfold vis1; simp [el]
      rw [e]
      simp [B_group_at_1, k1, k2, f_place B, hp]
theorem grp_for (B : BOk b h w) : ∀ (ns f ws : List Pt), f.length + ns.length ≤ 1000 → ws.length + ns.length ≤ 1000 → forL (aName 4) B_group_at_1 [1, 4, 5, 6] (ns.map ptD) (gS b f ws) = .nx (gS b (ns.foldl (vis1 (lnkP b)) (f, ws)).1 (ns.foldl (vis1 (lnkP b)) (f, ws)).2)
  | [], f, ws, _, _ => rfl
  | n :: ns, f, ws, h1, h2 => by
    rw [List.length_cons] at h1 h2
    rw [List.map_cons, List.foldl_cons]
    have g := grp_vis B (f := f) (ws := ws) (n := n) (by omega) (by omega)
    have l1 : (vis1 (lnkP b) (f, ws) n).1.length ≤ f.length + 1 ∧ (vis1 (lnkP b) (f, ws) n).2.length ≤ ws.length + 1 := by
      unfold vis1; split <;> simp
    refine forL_next _ _ (by rfl) g ?_ (grp_for B ns (vis1 (lnkP b) (f, ws) n).1 (vis1 (lnkP b) (f, ws) n).2 (by omega) (by omega))
    rfl
theorem grp_body (B : BOk b h w) {f ws : List Pt} {x : Pt} (hx : ws.getLast? = some x) (h1 : f.length ≤ 900) (h2 : ws.length ≤ 900) : B_group_at_2 (gS b f ws) = .nx (gS b ((nbrs x).foldl (vis1 (lnkP b)) (f, ws.dropLast)).1 ((nbrs x).foldl (vis1 (lnkP b)) (f, ws.dropLast)).2) := by
  have g := grp_for B (nbrs x) f ws.dropLast (by show _ + 4 ≤ _; omega) (by rw [List.length_dropLast]; show _ + 4 ≤ _; omega)
  have hl : (ws.map ptD).getLast? = some (ptD x) := by rw [List.getLast?_map, hx]; rfl
  have hd : (ws.map ptD).dropLast = ws.dropLast.map ptD := by rw [List.map_dropLast]
  have e1 : sPopA 3 (aTup (aCons (aName 5) (aCons (aName 6) aNil))) (gS b f ws) = .nx [.f (bdD b), .u, .o (.dict (fD f)), .o (.list (ws.dropLast.map ptD)), .u, .f (.int x.1), .f (.int x.2)] := by
    rw [x_sPopA]
    show Out.of (oR (ws.map ptD).getLast?) _ _ = _
    rw [hl]
    show Out.nx [.f (bdD b), .u, .o (.dict (fD f)), .o (.list (ws.map ptD).dropLast), .u, .f (.int x.1), .f (.int x.2)] = _
    rw [hd]
  unfold B_group_at_2
  rw [x_sCons, e1, thn_nx, x_sFor]
  exact g
theorem grp_while (B : BOk b h w) : ∀ (n : Nat) (f ws : List Pt), ws.length + todo (lnkP b) h w f < n → ws.length + todo (lnkP b) h w f ≤ 600 → f.length + todo (lnkP b) h w f ≤ 600 →
    whN T_group_at_2 B_group_at_2 [1, 4, 5, 6] n (gS b f ws) = .nx (gS b (bfs (lnkP b) n f ws) [])
  | 0, f, ws, h1, _, _ => by omega
  | n + 1, f, ws, h1, h2, h3 => by
    unfold bfs
    cases e : ws.getLast? with
    | none =>
      rw [List.getLast?_eq_none_iff] at e
      subst e
      refine whN_0 ?_
      simp [T_group_at_2, gS]
    | some x =>
      have hne : ws ≠ [] := by rintro rfl; cases e
      have hl : 0 < ws.length := List.length_pos_iff.mpr hne
      obtain ⟨v1, v2⟩ := vis_todo (q := lnkP b) (h := h) (w := w) (fun x hx => lnkP_in B.sz hx) (nbrs x) f ws.dropLast
      rw [List.length_dropLast] at v1
      refine whN_1 (ρ2 := gS b ((nbrs x).foldl (vis1 (lnkP b)) (f, ws.dropLast)).1 ((nbrs x).foldl (vis1 (lnkP b)) (f, ws.dropLast)).2) ?_ (grp_body B e (by omega) (by omega)) (by rfl) (grp_while B n _ _ (by omega) (by omega) (by omega))
      simp [T_group_at_2, gS, hl]
theorem keys_fD (f : List Pt) : keysD (fD f) = f.map ptD := by unfold keysD; rw [List.map_map]; rfl
theorem sort_pts (f : List Pt) : sortL (f.map ptD) = (srt f).map ptD := by
  unfold sortL srt
  rw [List.map_mergeSort]
  intro a _ c _
  show ptLe a c = !PyProof.Rows.lexLt PyProof.Rows.itemOrd [.inl 1, .inl c.1, .inl 1, .inl c.2, .inl 0] [.inl 1, .inl a.1, .inl 1, .inl a.2, .inl 0]
  have il : ∀ i j : Int, PyProof.Rows.itemOrd.blt (.inl i) (.inl j) = decide (i < j) := fun _ _ => rfl
  rw [Bool.eq_iff_iff]
  simp [ptLe, PyProof.Rows.lexLt, PyProof.Rows.itemLt]
  omega
theorem plain_pts (f : List Pt) : PyData.plainAll (f.map ptD) = true := by
  induction f with
  | nil => rfl
  | cons p f ih => show (true && _) = true; rw [ih]; rfl
theorem depth_pts (f : List Pt) : PyData.depthAll (f.map ptD) ≤ 3 := by
  induction f with
  | nil => exact Nat.zero_le _
  | cons p f ih => exact Nat.max_le.mpr ⟨by have : PyData.depth (.tuple [.int p.1, .int p.2]) = 1 := rfl; show PyData.depth (.tuple [.int p.1, .int p.2]) ≤ 3; omega, ih⟩
theorem sortOk_pts {f : List Pt} (hl : f.length ≤ 1000) : sortOk (f.map ptD) = true := by
  unfold sortOk
  have h1 : fits (f.map ptD).length = true := fits_k (by rw [List.length_map]; omega)
  have h2 : allAlikeB (f.map ptD) = true := by
    unfold allAlikeB
    rw [List.all_eq_true]
    intro d hd
    rw [List.all_eq_true]
    intro e he
    obtain ⟨p, _, rfl⟩ := List.mem_map.mp hd
    obtain ⟨q, _, rfl⟩ := List.mem_map.mp he
    rfl
  have h3 : (f.map ptD).all tupNE = true := by
    rw [List.all_eq_true]
    intro d hd
    obtain ⟨p, _, rfl⟩ := List.mem_map.mp hd
    rfl
  have h4 : decide (PyData.depthAll (f.map ptD) ≤ 60) = true := decide_eq_true (by have := depth_pts f; omega)
  rw [h1, plain_pts, h2, h3, h4]; rfl
theorem bfs_len {q : Pt → Bool} {h w : Nat} (hq : ∀ x, q x = true → inR h w x) : ∀ (n : Nat) (f ws : List Pt), (bfs q n f ws).length ≤ f.length + todo q h w f
  | 0, f, ws => Nat.le_add_right _ _
  | n + 1, f, ws => by
    unfold bfs
    split
    · exact Nat.le_add_right _ _
    · rename_i x hx
      exact Nat.le_trans (bfs_len hq n _ _) (vis_todo hq (nbrs x) f ws.dropLast).2
theorem f_group (B : BOk b h w) {p : Pt} (hp : inR h w p) : F_group_at [bdD b, ptD p] = .ok (.tuple ((grp b p).map ptD)) := by
  have t0 := todo_le (lnkP b) h w [p]
  have hm : h * w ≤ 16 * 16 := Nat.mul_le_mul B.h2 B.w2
  have g := grp_while B fuelG [p] [p] (by show 1 + _ < 300; omega) (by show 1 + _ ≤ 600; omega) (by show 1 + _ ≤ 600; omega)
  have g2 := sWhile_of (T := T_group_at_2) (B := B_group_at_2) (ks := [1, 4, 5, 6]) (n := fuelG) (ρ := [.f (bdD b), .f (ptD p), .o (.dict (fD [p])), .o (.list [ptD p]), .u, .u, .u]) (o := .nx (gS b (bfs (lnkP b) fuelG [p] [p]) [])) g (by intro e; cases e) (by show 300 ≤ _; omega)
  have hb : (bfs (lnkP b) fuelG [p] [p]).length ≤ 1000 := by
    have := bfs_len (q := lnkP b) (h := h) (w := w) (fun x hx => lnkP_in B.sz hx) fuelG [p] [p]
    rw [List.length_singleton] at this
    omega
  have hs := sortOk_pts hb
  have k0 : okKs [ptD p] = true := rfl
  have k1 : frz 2 (gS b (bfs (lnkP b) fuelG [p] [p]) []) = [.f (bdD b), .u, .f (.dict (fD (bfs (lnkP b) fuelG [p] [p]))), .o (.list []), .u, .u, .u] := by rw [frz_o (d := .dict (fD (bfs (lnkP b) fuelG [p] [p]))) (by rfl)]; rfl
  have g2 : sWhile T_group_at_2 B_group_at_2 [1, 4, 5, 6] [.f (bdD b), .f (ptD p), .o (.dict [(ptD p, .bool true)]), .o (.list [ptD p]), .u, .u, .u] = .nx (gS b (bfs (lnkP b) fuelG [p] [p]) []) := g2
  show runD 7 S_group_at _ = _
  simp [runD, S_group_at, k0, g2, k1, keys_fD, hs, sort_pts]
  rfl
/-! ### turning -/
def rowN (b : Bd) : List (List D) := b.map fun r => r.map sgS
theorem rowN_get {b : Bd} {j : Nat} {row : List Nat} (h : b[j]? = some row) : (rowN b).getD j [] = row.map sgS := by
  unfold rowN
  rw [List.getD_eq_getElem?_getD, List.getElem?_map, h]; rfl
theorem rowN_set {b : Bd} {r c s : Nat} {row : List Nat} (h : b[r]? = some row) : rowN (setN b r c s) = (rowN b).set r ((row.map sgS).set c (sgS s)) := by
  unfold rowN setN
  rw [List.map_set, List.getD_eq_getElem?_getD, h, Option.getD_some, List.map_set]
theorem ix_others {s : Nat} (h : swt s = true) : dIxD c_OTHERS (sgS s) = .ok (sgS (oth s)) := by
  unfold swt lnk at h
  simp only [Bool.or_eq_true, beq_iff_eq] at h
  rcases h with (rfl | rfl) | rfl | rfl <;> exact x_ixDD (by decide +kernel) (by rfl)
theorem swt_oth {s : Nat} (h : swt s = true) : swt (oth s) = true := by
  unfold swt lnk at h
  simp only [Bool.or_eq_true, beq_iff_eq] at h
  rcases h with (rfl | rfl) | rfl | rfl <;> rfl
theorem sgn_oth {s : Nat} (h : swt s = true) : oth s ∈ sgns := by
  unfold swt lnk at h
  simp only [Bool.or_eq_true, beq_iff_eq] at h
  rcases h with (rfl | rfl) | rfl | rfl <;> decide
theorem turn_step {b : Bd} {h w : Nat} (S : Sz b h w) {p : Pt} {s : Nat} (e : atZ b p = some s) (hs : swt s = true) :
    B_turned_at_1 [.u, .u, .n (rowN b), .f (.int p.1), .f (.int p.2)] = .nx [.u, .u, .n (rowN (turn1 b p)), .f (.int p.1), .f (.int p.2)] := by
  have hp := atZ_some S e
  obtain ⟨row, s', a1, a2, a3, a4⟩ := atZ_in S hp
  rw [a4] at e
  cases e
  have e1 : turn1 b p = setN b p.1.toNat p.2.toNat (oth s) := by unfold turn1; rw [a4]; rfl
  have hN : ixN (rowN b).length p.1 = some p.1.toNat := ixN_int hp.1 (by unfold rowN; rw [List.length_map, S.len]; exact hp.2.1)
  have hA : atI (row.map sgS) p.2 = some (sgS s) := atI_int hp.2.2.1 (by rw [List.getElem?_map, a3]; rfl)
  have hM : ixN (row.map sgS).length p.2 = some p.2.toNat := ixN_int hp.2.2.1 (by rw [List.length_map, a2]; exact hp.2.2.2)
  have v : eNix 2 (eVar 3) (eVar 4) [.u, .u, .n (rowN b), .f (.int p.1), .f (.int p.2)] = .ok (sgS s) := by
    rw [x_eNix]
    show (oR (ixN (rowN b).length p.1) >>= fun j => oR (atI ((rowN b).getD j []) p.2)) = _
    rw [hN]
    show oR (atI ((rowN b).getD p.1.toNat []) p.2) = _
    rw [rowN_get a1, hA]; rfl
  unfold B_turned_at_1
  rw [x_sSetN, x_e2, v]
  show Out.of (dIxD c_OTHERS (sgS s)) _ _ = _
  rw [ix_others hs]
  show Out.of (oR (ixN (rowN b).length p.1)) _ _ = _
  rw [hN]
  show Out.of (oR (ixN ((rowN b).getD p.1.toNat []).length p.2)) _ _ = _
  rw [rowN_get a1, hM]
  show Out.nx [.u, .u, .n ((rowN b).set p.1.toNat ((row.map sgS).set p.2.toNat (sgS (oth s)))), .f (.int p.1), .f (.int p.2)] = _
  rw [e1, rowN_set a1]
theorem turn_at {b : Bd} {h w : Nat} (S : Sz b h w) {p q : Pt} (hp : ∃ s, atZ b p = some s ∧ swt s = true) (hq : ∃ s, atZ b q = some s ∧ swt s = true) : ∃ s, atZ (turn1 b p) q = some s ∧ swt s = true := by
  obtain ⟨s, h1, h2⟩ := hp
  unfold turn1
  rw [h1]
  show ∃ s', atZ (setZ b p (oth s)) q = some s' ∧ _
  rw [atZ_set S (atZ_some S h1)]
  by_cases e : q = p
  · exact ⟨_, if_pos e, swt_oth h2⟩
  · rw [if_neg e]; exact hq
theorem turn_for {h w : Nat} : ∀ (ps : List Pt) (b : Bd), Sz b h w → (∀ p ∈ ps, ∃ s, atZ b p = some s ∧ swt s = true) →
    forL (aTup (aCons (aName 3) (aCons (aName 4) aNil))) B_turned_at_1 [0, 1, 3, 4] (ps.map ptD) [.u, .u, .n (rowN b), .u, .u] = .nx [.u, .u, .n (rowN (turns b ps)), .u, .u]
  | [], b, S, _ => rfl
  | p :: ps, b, S, hp => by
    obtain ⟨s, h1, h2⟩ := hp p List.mem_cons_self
    rw [List.map_cons]
    refine forL_next _ _ (by rfl) (turn_step S h1 h2) ?_ (turn_for ps (turn1 b p) S.turn1 fun q hq => turn_at S ⟨s, h1, h2⟩ (hp q (List.mem_cons_of_mem _ hq)))
    rfl
theorem join_row (r : List Nat) : Txt.join "" (r.map fun s => ⟨#[s]⟩) = rowT r := by
  rw [show Txt.join "" (r.map fun s => (⟨#[s]⟩ : Str)) = Str.join "" (r.map fun s => (⟨#[s]⟩ : Str)) from PySem.StrLaws.glued_eq_join _ _]
  have key : ∀ r : List Nat, Str.join "" (r.map fun s => (⟨#[s]⟩ : Str)) = rowT r := by
    intro r
    induction r with
    | nil => rfl
    | cons s r ih =>
      cases r with
      | nil => rfl
      | cons s' r =>
        rw [List.map_cons, List.map_cons]
        show (⟨#[s]⟩ : Str) ++ "" ++ Str.join "" ((⟨#[s']⟩ : Str) :: r.map _) = _
        rw [List.map_cons] at ih
        rw [ih]
        show (⟨#[s] ++ #[] ++ (s' :: r).toArray⟩ : Str) = ⟨(s :: s' :: r).toArray⟩
        simp
  exact key r
theorem dJoin_row {r : List Nat} (h : r.length ≤ 100000) : dJoin (.str "") [.list (r.map sgS)] = .ok (.str (rowT r)) := by
  have e : r.map sgS = (r.map fun s => (⟨#[s]⟩ : Str)).map .str := by rw [List.map_map]; rfl
  show joinD "" _ = _
  rw [e, joinD_map, join_row]
  unfold joinOk
  have h1 : ∀ r : List Nat, ((r.map fun s => (⟨#[s]⟩ : Str)).map (·.length)).sum = r.length := by
    intro r
    induction r with
    | nil => rfl
    | cons s r ih => rw [List.map_cons, List.map_cons, List.sum_cons, ih, List.length_cons]; show 1 + _ = _; omega
  rw [h1, List.length_map]
  exact decide_eq_true (by show r.length + r.length * 0 ≤ _; omega)
theorem f_turned (B : BOk b h w) {ps : List Pt} (hp : ∀ p ∈ ps, ∃ s, atZ b p = some s ∧ swt s = true) : F_turned_at [bdD b, .tuple (ps.map ptD)] = .ok (bdD (turns b ps)) := by
  have lp := turn_for ps b B.sz hp
  have S' := B.sz.turns (ps := ps)
  have hh := B.h2
  have hw := B.w2
  have f1 : fits (b.length) = true := fits16 (by rw [B.sz.len]; exact hh)
  have f2 : fits ((turns b ps).length) = true := fits16 (by rw [S'.len]; exact hh)
  have c1 : compR (cStep (aName 3) tTrue (eLs (eA dListD (eCons (eVar 3) eNil))) [.f (bdD b), .f (.tuple (ps.map ptD)), .u, .u, .u]) (b.map fun r => .str (rowT r)) = .ok (b.map fun r => .list (r.map sgS)) :=
    compR_all (fun r => PyData.str (rowT r)) (fun r => PyData.list (r.map sgS)) b fun r hr => by
      have : fits r.length = true := fits16 (by rw [B.sz.row r hr]; exact hw)
      simp [cStep, eLs, this]
  have c2 : ∀ (b' : Bd), Sz b' h w → compR (cStep (aName 3) tTrue (eM "str" dJoin (eStr "") (eCons (eVar 3) eNil)) [.u, .u, .f (rowsD (rowN b')), .u, .u]) (b'.map fun r => .list (r.map sgS)) = .ok (b'.map fun r => .str (rowT r)) := fun b' S =>
    compR_all (fun r => PyData.list (r.map sgS)) (fun r => PyData.str (rowT r)) b' fun r hr => by
      have := dJoin_row (r := r) (by rw [S.row r hr]; omega)
      simp [cStep, tyName, this]
  have c2 := c2 _ S'
  have hm : (b.map fun r => PyData.list (r.map sgS)).map rowD = rowN b := by rw [List.map_map]; rfl
  have hr : seqOf (rowsD (rowN (turns b ps))) = .ok ((turns b ps).map fun r => .list (r.map sgS)) := by
    show R.ok ((rowN (turns b ps)).map PyData.list) = _
    unfold rowN
    rw [List.map_map]; rfl
  have fz : frzN 2 [.u, .u, .n (rowN (turns b ps)), .u, .u] = [.u, .u, .f (rowsD (rowN (turns b ps))), .u, .u] := by rw [frzN_n (rows := rowN (turns b ps)) (by rfl)]; rfl
  show runD 5 S_turned_at _ = _
  simp [runD, S_turned_at, f1, f2, c1, hm, lp, fz, hr, c2]
  rfl
theorem turns_one (b : Bd) (p : Pt) : turns b [p] = turn1 b p := rfl
theorem grp_ok {b : Bd} {h w : Nat} (S : Sz b h w) {p : Pt} {s : Nat} (e : atZ b p = some s) (hl : lnk s = true) : ∀ x ∈ grp b p, ∃ s, atZ b x = some s ∧ swt s = true := by
  intro x hx
  have hp : lnkP b p = true := by unfold lnkP; rw [e]; exact hl
  have := grp_lnk hp x hx
  unfold lnkP at this
  split at this
  · rename_i s' q
    exact ⟨s', q, by unfold swt; rw [this]; simp⟩
  · cases this
theorem f_behind (B : BOk b h w) {p : Pt} (hp : inR h w p) : F_behind [bdD b, .int p.1, .int p.2] = .ok (bdD (behd b p)) := by
  obtain ⟨row, s, a1, a2, a3, a4⟩ := atZ_in B.sz hp
  have g1 := at_row B hp a1
  have g2 := at_sign hp.2.2.1 B.w2 a2 a3
  have e0 : PyData.tuple [.int p.1, .int p.2] = ptD p := rfl
  show runD 4 S_behind _ = _
  unfold behd
  rw [a4]
  cases hs : swt s with
  | false => simp [-x_notInDS, runD, S_behind, g1, g2, notIn_switches, hs]
  | true =>
    cases hl : lnk s with
    | false =>
      have g3 := f_turned B (ps := [p]) fun q hq => by rw [List.mem_singleton.mp hq]; exact ⟨s, a4, hs⟩
      have g3 : F_turned_at [bdD b, .tuple [ptD p]] = .ok (bdD (turns b [p])) := g3
      simp [-x_notInDS, -x_inDS, runD, S_behind, g1, g2, notIn_switches, hs, in_linked, hl, e0, g3]
    | true =>
      have g3 := f_turned B (ps := grp b p) (grp_ok B.sz a4 hl)
      simp [-x_notInDS, -x_inDS, runD, S_behind, g1, g2, notIn_switches, hs, in_linked, hl, e0, g3, f_group B hp]
theorem BOk.turn1 (B : BOk b h w) (p : Pt) : BOk (turn1 b p) h w := by
  refine ⟨B.sz.turn1, B.h1, B.h2, B.w1, B.w2, ?_⟩
  unfold PQ.turn1
  split
  · rename_i s e
    obtain ⟨row, s', a1, a2, a3, a4⟩ := atZ_in B.sz (atZ_some B.sz e)
    rw [a4] at e
    have es : s' = s := Option.some.inj e
    subst es
    have hs : s' ∈ sgns := B.sg row (List.mem_of_getElem? a1) s' (List.mem_of_getElem? a3)
    have ho : oth s' ∈ sgns := by
      cases q : swt s' with
      | true => exact sgn_oth q
      | false =>
        have : oth s' = s' := by
          unfold swt lnk at q
          simp only [Bool.or_eq_false_iff, beq_eq_false_iff_ne] at q
          unfold oth
          rw [if_neg q.1.1, if_neg q.1.2, if_neg q.2.1, if_neg q.2.2]
        rw [this]; exact hs
    intro r hr s hsr
    unfold setZ setN at hr
    rw [List.getD_eq_getElem?_getD, a1, Option.getD_some] at hr
    rcases List.mem_or_eq_of_mem_set hr with hr | rfl
    · exact B.sg r hr s hsr
    · rcases List.mem_or_eq_of_mem_set hsr with hsr | rfl
      · exact B.sg row (List.mem_of_getElem? a1) s hsr
      · exact ho
  · exact B.sg
theorem BOk.turns : ∀ {ps : List Pt} {b : Bd}, BOk b h w → BOk (turns b ps) h w
  | [], b, B => B
  | p :: ps, b, B => BOk.turns (ps := ps) (B.turn1 p)
theorem BOk.behd (B : BOk b h w) (p : Pt) : BOk (behd b p) h w := by
  unfold PQ.behd
  split
  · split
    · split
      · exact B.turns
      · exact B.turns
    · exact B
  · exact B
/-! ### falling -/
def wayS (s : Nat) (way : Int) : Int := if s = 88 then way else if s = 46 then 0 else if s = 92 ∨ s = 82 ∨ s = 62 then 1 else -1
theorem ix_ways {s : Nat} (hs : s ∈ sgns) (h1 : s ≠ 35) (h2 : s ≠ 88) (way : Int) : dIxD c_WAYS (sgS s) = .ok (.int (wayS s way)) := by
  unfold sgns at hs
  simp only [List.mem_cons, List.not_mem_nil, or_false] at hs
  rcases hs with rfl | rfl | rfl | rfl | rfl | rfl | rfl | rfl | rfl
  · exact x_ixDD (by decide +kernel) (by rfl)
  · exact x_ixDD (by decide +kernel) (by rfl)
  · exact x_ixDD (by decide +kernel) (by rfl)
  · exact x_ixDD (by decide +kernel) (by rfl)
  · exact x_ixDD (by decide +kernel) (by rfl)
  · exact x_ixDD (by decide +kernel) (by rfl)
  · exact x_ixDD (by decide +kernel) (by rfl)
  · exact absurd rfl h2
  · exact absurd rfl h1
theorem f_way {s : Nat} (hs : s ∈ sgns) (h1 : s ≠ 35) (way : Int) : F_way_at [sgS s, .int way] = .ok (.int (wayS s way)) := by
  show runD 2 S_way_at _ = _
  by_cases h2 : s = 88
  · subst h2
    simp [runD, S_way_at, l_X, sg_eq, wayS]
  · have g := ix_ways hs h1 h2 way
    simp [runD, S_way_at, l_X, sg_eq, h2, g]
abbrev outD (c : Int) : D := .tuple [.str "out", .int c]
abbrev stopD (r c : Int) : D := .tuple [.str "stop", .int r, .int c]
abbrev leftD (r : Int) : D := .tuple [.str "left", .int r]
abbrev rightD (r : Int) : D := .tuple [.str "right", .int r]
theorem f_beyond (B : BOk b h w) (r c : Int) : F_beyond [bdD b, .int r, .int c] = .ok (if c < 0 then leftD r else if c = w then rightD r else .none) := by
  obtain ⟨row0, hl0, q0, q1⟩ := B.row0
  show runD 3 S_beyond _ = _
  by_cases h1 : c < 0 <;> by_cases h2 : c = w <;> simp [runD, S_beyond, q0, q1, h1, h2]
  all_goals first | rfl | (split <;> rfl) | skip
theorem wayS_le (s : Nat) {way : Int} (h : -1 ≤ way ∧ way ≤ 1) : -1 ≤ wayS s way ∧ wayS s way ≤ 1 := by
  unfold wayS
  split
  · exact h
  · split
    · omega
    · split <;> omega
theorem forL_ret {A : EG} {B : ES} {ks : List Nat} {d v : D} {ds : List D} {ρ ρ1 : Rho} (h1 : A d ρ = .ok ρ1) (h2 : B ρ1 = .ret v) : forL A B ks (d :: ds) ρ = .ret v := by
  rw [forL, h1]
  simp only [h2]
end
end PQ

/-! what hangs together; turning as a whole -/
namespace PQ
open PySem PySem.Spec PyProof.Rows L2
inductive Reach (q : Pt → Bool) (p : Pt) : Pt → Prop
  | refl : Reach q p p
  | step {x n : Pt} : Reach q p x → n ∈ nbrs x → q n = true → Reach q p n
theorem Reach.lnk {q : Pt → Bool} {p x : Pt} (hp : q p = true) (h : Reach q p x) : q x = true := by
  cases h with
  | refl => exact hp
  | step _ _ h => exact h
theorem vis_spec (q : Pt → Bool) : ∀ (ns f ws : List Pt),
    (∀ x, x ∈ (ns.foldl (vis1 q) (f, ws)).1 ↔ x ∈ f ∨ (x ∈ ns ∧ q x = true)) ∧ (f.Nodup → (ns.foldl (vis1 q) (f, ws)).1.Nodup) ∧ (∀ x, x ∈ (ns.foldl (vis1 q) (f, ws)).1 → x ∉ f → x ∈ (ns.foldl (vis1 q) (f, ws)).2) ∧
    (∀ x, x ∈ ws → x ∈ (ns.foldl (vis1 q) (f, ws)).2) ∧ (∀ x, x ∈ (ns.foldl (vis1 q) (f, ws)).2 → x ∈ ws ∨ x ∈ (ns.foldl (vis1 q) (f, ws)).1)
  | [], f, ws => ⟨fun x => by simp, fun h => h, fun x h h2 => absurd h h2, fun x h => h, fun x h => .inl h⟩
  | n :: ns, f, ws => by
    rw [List.foldl_cons]
    by_cases e : (!decide (n ∈ f) && q n) = true
    · have ev : vis1 q (f, ws) n = (f ++ [n], ws ++ [n]) := if_pos e
      rw [ev]
      rw [Bool.and_eq_true] at e
      obtain ⟨e1, e2⟩ := e
      have e1 : n ∉ f := by simpa using e1
      obtain ⟨a1, a2, a3, a4, a5⟩ := vis_spec q ns (f ++ [n]) (ws ++ [n])
      refine ⟨fun x => ?_, fun h => a2 ?_, fun x h1 h2 => ?_, fun x h => a4 x (List.mem_append_left _ h), fun x h => ?_⟩
      · rw [a1]
        simp only [List.mem_append, List.mem_cons, List.not_mem_nil, or_false]
        constructor
        · rintro ((h | rfl) | ⟨h, h2⟩)
          · exact .inl h
          · exact .inr ⟨.inl rfl, e2⟩
          · exact .inr ⟨.inr h, h2⟩
        · rintro (h | ⟨rfl | h, h2⟩)
          · exact .inl (.inl h)
          · exact .inl (.inr rfl)
          · exact .inr ⟨h, h2⟩
      · rw [List.nodup_append]
        refine ⟨h, by simp, fun x hx y hy => ?_⟩
        rw [List.mem_singleton.mp hy]
        exact fun z => e1 (z ▸ hx)
      · by_cases z : x = n
        · rw [z]; exact a4 n (List.mem_append_right _ (List.mem_singleton.mpr rfl))
        · exact a3 x h1 fun hx => by
            rcases List.mem_append.mp hx with hx | hx
            · exact h2 hx
            · exact z (List.mem_singleton.mp hx)
      · rcases a5 x h with h | h
        · rcases List.mem_append.mp h with h | h
          · exact .inl h
          · rw [List.mem_singleton.mp h]
            exact .inr ((a1 n).mpr (.inl (List.mem_append_right _ (List.mem_singleton.mpr rfl))))
        · exact .inr h
    · have ev : vis1 q (f, ws) n = (f, ws) := if_neg e
      rw [ev]
      obtain ⟨a1, a2, a3, a4, a5⟩ := vis_spec q ns f ws
      refine ⟨fun x => ?_, a2, a3, a4, a5⟩
      rw [a1]
      simp only [List.mem_cons]
      constructor
      · rintro (h | ⟨h, h2⟩)
        · exact .inl h
        · exact .inr ⟨.inr h, h2⟩
      · rintro (h | ⟨rfl | h, h2⟩)
        · exact .inl h
        · simp only [h2, Bool.and_true, Bool.not_eq_true', decide_eq_false_iff_not, Classical.not_not] at e
          exact .inl e
        · exact .inr ⟨h, h2⟩
structure BI (q : Pt → Bool) (p : Pt) (f ws : List Pt) : Prop where
  nd : f.Nodup
  ip : p ∈ f
  re : ∀ x ∈ f, Reach q p x
  iw : ∀ x ∈ ws, x ∈ f
  cl : ∀ x ∈ f, x ∉ ws → ∀ n ∈ nbrs x, q n = true → n ∈ f
theorem mem_last {α : Type} {l : List α} {x y : α} (h : l.getLast? = some x) (hy : y ∈ l) : y ∈ l.dropLast ∨ y = x := by
  obtain ⟨l', rfl⟩ := List.getLast?_eq_some_iff.mp h
  rw [List.dropLast_concat]
  rcases List.mem_append.mp hy with hy | hy
  · exact .inl hy
  · exact .inr (List.mem_singleton.mp hy)
theorem BI.step {q : Pt → Bool} {p x : Pt} {f ws : List Pt} (I : BI q p f ws) (hx : ws.getLast? = some x) : BI q p ((nbrs x).foldl (vis1 q) (f, ws.dropLast)).1 ((nbrs x).foldl (vis1 q) (f, ws.dropLast)).2 := by
  obtain ⟨a1, a2, a3, a4, a5⟩ := vis_spec q (nbrs x) f ws.dropLast
  have hxf : x ∈ f := I.iw x (List.mem_of_getLast? hx)
  refine ⟨a2 I.nd, (a1 p).mpr (.inl I.ip), fun y hy => ?_, fun y hy => ?_, fun y hy hw n hn hq => ?_⟩
  · rcases (a1 y).mp hy with h | ⟨h, h2⟩
    · exact I.re y h
    · exact .step (I.re x hxf) h h2
  · rcases a5 y hy with h | h
    · exact (a1 y).mpr (.inl (I.iw y ((List.dropLast_sublist _).subset h)))
    · exact h
  · by_cases hyf : y ∈ f
    · by_cases hyx : y = x
      · rw [hyx] at hn
        exact (a1 n).mpr (.inr ⟨hn, hq⟩)
      · refine (a1 n).mpr (.inl (I.cl y hyf (fun z => ?_) n hn hq))
        rcases mem_last hx z with h | h
        · exact hw (a4 y h)
        · exact hyx h
    · exact absurd (a3 y hy hyf) hw
theorem bfs_inv {q : Pt → Bool} {p : Pt} {h w : Nat} (hq : ∀ x, q x = true → inR h w x) : ∀ (n : Nat) (f ws : List Pt), BI q p f ws → ws.length + todo q h w f < n → BI q p (bfs q n f ws) []
  | 0, f, ws, _, h => by omega
  | n + 1, f, ws, I, hn => by
    unfold bfs
    split
    · rename_i e
      rw [List.getLast?_eq_none_iff] at e
      subst e
      exact I
    · rename_i x hx
      have t := vis_todo (h := h) (w := w) hq (nbrs x) f ws.dropLast
      have hl : ws.dropLast.length + 1 = ws.length := by
        rw [List.length_dropLast]
        have : 0 < ws.length := List.length_pos_of_mem (List.mem_of_getLast? hx)
        omega
      exact bfs_inv hq n _ _ (I.step hx) (by have := t.1; omega)
theorem BI.all {q : Pt → Bool} {p : Pt} {f : List Pt} (I : BI q p f []) (x : Pt) : x ∈ f ↔ Reach q p x := by
  constructor
  · exact I.re x
  · intro h
    induction h with
    | refl => exact I.ip
    | step _ h1 h2 ih => exact I.cl _ ih (by simp) _ h1 h2
theorem bfs_BI {b : Bd} {h w : Nat} (S : Sz b h w) (h16 : h ≤ 16) (w16 : w ≤ 16) (p : Pt) : BI (lnkP b) p (bfs (lnkP b) fuelG [p] [p]) [] := by
  refine bfs_inv (h := h) (w := w) (fun x hx => lnkP_in S hx) _ _ _ ⟨by simp, by simp, fun x hx => by rw [List.mem_singleton.mp hx]; exact .refl, fun x hx => hx, fun x hx hn => absurd hx hn⟩ ?_
  have h1 := todo_le (lnkP b) h w [p]
  have h2 : h * w ≤ 16 * 16 := Nat.mul_le_mul h16 w16
  show 1 + _ < 300
  omega
theorem srt_perm (l : List Pt) : (srt l).Perm l := List.mergeSort_perm _ _
theorem mem_srt {l : List Pt} {x : Pt} : x ∈ srt l ↔ x ∈ l := (srt_perm l).mem_iff
theorem mem_grp {b : Bd} {h w : Nat} (S : Sz b h w) (h16 : h ≤ 16) (w16 : w ≤ 16) {p x : Pt} : x ∈ grp b p ↔ Reach (lnkP b) p x := by
  unfold grp
  rw [mem_srt]
  exact (bfs_BI S h16 w16 p).all x
theorem grp_nd {b : Bd} {h w : Nat} (S : Sz b h w) (h16 : h ≤ 16) (w16 : w ≤ 16) (p : Pt) : (grp b p).Nodup :=
  (srt_perm _).nodup_iff.mpr (bfs_BI S h16 w16 p).nd
theorem ptLe_trans (a b c : Pt) (h1 : ptLe a b = true) (h2 : ptLe b c = true) : ptLe a c = true := by
  unfold ptLe at *
  rw [decide_eq_true_iff] at *
  omega
theorem ptLe_total (a b : Pt) : (ptLe a b || ptLe b a) = true := by
  unfold ptLe
  rw [Bool.or_eq_true, decide_eq_true_iff, decide_eq_true_iff]
  omega
theorem ptLe_anti (a b : Pt) (h1 : ptLe a b = true) (h2 : ptLe b a = true) : a = b := by
  unfold ptLe at *
  rw [decide_eq_true_iff] at *
  exact Prod.ext (by omega) (by omega)
theorem srt_sorted (l : List Pt) : (srt l).Pairwise fun a b => ptLe a b = true := List.pairwise_mergeSort ptLe_trans ptLe_total l
theorem srt_eq_perm {l l' : List Pt} (h : l.Perm l') : srt l = srt l' :=
  List.Perm.eq_of_pairwise (le := fun a b => ptLe a b = true) (fun a b _ _ => ptLe_anti a b) (srt_sorted l) (srt_sorted l') ((srt_perm l).trans (h.trans (srt_perm l').symm))
theorem perm_of_mem {α : Type} {l l' : List α} (h1 : l.Nodup) (h2 : l'.Nodup) (h : ∀ x, x ∈ l ↔ x ∈ l') : l.Perm l' := (List.perm_ext_iff_of_nodup h1 h2).mpr h
theorem srt_eq {l l' : List Pt} (h1 : l.Nodup) (h2 : l'.Nodup) (h : ∀ x, x ∈ l ↔ x ∈ l') : srt l = srt l' := srt_eq_perm (perm_of_mem h1 h2 h)
theorem srt_id {l : List Pt} (h : l.Pairwise fun a b => ptLe a b = true) : srt l = l :=
  List.Perm.eq_of_pairwise (le := fun a b => ptLe a b = true) (fun a b _ _ => ptLe_anti a b) (srt_sorted l) h (srt_perm l)
/-! ### growing turn by turn -/
def adj (a b : Pt) : Bool := decide ((a.1 - b.1).natAbs + (a.2 - b.2).natAbs = 1)
theorem adj_iff {n a : Pt} : adj n a = true ↔ n ∈ nbrs a := by
  unfold adj nbrs
  rw [decide_eq_true_iff]
  simp only [List.mem_cons, List.not_mem_nil, or_false, Prod.ext_iff]
  omega
def moreG (b : Bd) (h w : Nat) (own : List Pt) : List Pt := (cells h w).filter fun x => lnkP b x && (!decide (x ∈ own) && own.any fun a => adj x a)
def growN (b : Bd) (h w : Nat) : Nat → List Pt → List Pt
  | 0, own => own
  | n + 1, own => growN b h w n (own ++ moreG b h w own)
theorem cells_nd (h w : Nat) : (cells h w).Nodup := by
  unfold cells
  refine List.pairwise_flatMap.mpr ⟨fun r _ => ?_, ?_⟩
  · refine List.pairwise_map.mpr (List.nodup_range.imp fun {a c} hne e => hne ?_)
    have := congrArg Prod.snd e
    simp only at this
    omega
  · refine List.nodup_range.imp fun {a c} hne => ?_
    intro x hx y hy e
    obtain ⟨i, _, e1⟩ := List.mem_map.mp hx
    obtain ⟨j, _, e2⟩ := List.mem_map.mp hy
    have := congrArg Prod.fst (e1.trans (e.trans e2.symm))
    simp only at this
    exact hne (by omega)
structure GI (b : Bd) (h w : Nat) (p : Pt) (own : List Pt) : Prop where
  nd : own.Nodup
  ip : p ∈ own
  re : ∀ x ∈ own, Reach (lnkP b) p x
  rg : ∀ x ∈ own, inR h w x
theorem mem_more {b : Bd} {h w : Nat} {own : List Pt} {x : Pt} : x ∈ moreG b h w own ↔ inR h w x ∧ lnkP b x = true ∧ x ∉ own ∧ ∃ a ∈ own, x ∈ nbrs a := by
  unfold moreG
  rw [List.mem_filter, mem_cells, Bool.and_eq_true, Bool.and_eq_true, List.any_eq_true]
  simp only [adj_iff, Bool.not_eq_true', decide_eq_false_iff_not]
theorem GI.grow {b : Bd} {h w : Nat} {p : Pt} {own : List Pt} (I : GI b h w p own) : GI b h w p (own ++ moreG b h w own) := by
  refine ⟨?_, List.mem_append_left _ I.ip, fun x hx => ?_, fun x hx => ?_⟩
  · rw [List.nodup_append]
    refine ⟨I.nd, (cells_nd h w).filter _, fun x hx y hy e => ?_⟩
    rw [e] at hx
    exact (mem_more.mp hy).2.2.1 hx
  · rcases List.mem_append.mp hx with hx | hx
    · exact I.re x hx
    · obtain ⟨_, h2, _, a, ha, hn⟩ := mem_more.mp hx
      exact .step (I.re a ha) hn h2
  · rcases List.mem_append.mp hx with hx | hx
    · exact I.rg x hx
    · exact (mem_more.mp hx).1
theorem growN_stop {b : Bd} {h w : Nat} {own : List Pt} (e : moreG b h w own = []) : ∀ n, growN b h w n own = own
  | 0 => rfl
  | n + 1 => by
    rw [growN, e, List.append_nil]
    exact growN_stop e n
theorem nd_sub_len {α : Type} [DecidableEq α] : ∀ (l l' : List α), l.Nodup → (∀ x ∈ l, x ∈ l') → l.length ≤ l'.length
  | [], l', _, _ => Nat.zero_le _
  | a :: l, l', h, s => by
    obtain ⟨h1, h2⟩ := List.nodup_cons.mp h
    have ha := s a (List.mem_cons_self ..)
    have := nd_sub_len l (l'.erase a) h2 fun x hx => (List.mem_erase_of_ne (fun e => h1 (by rw [← e]; exact hx))).mpr (s x (List.mem_cons_of_mem _ hx))
    rw [List.length_erase_of_mem ha] at this
    have : 1 ≤ l'.length := List.length_pos_of_mem ha
    rw [List.length_cons]
    omega
theorem GI.len {b : Bd} {h w : Nat} {p : Pt} {own : List Pt} (I : GI b h w p own) : own.length ≤ h * w := by
  rw [← cells_len]
  exact nd_sub_len _ _ I.nd fun x hx => mem_cells.mpr (I.rg x hx)
theorem growN_end {b : Bd} {h w : Nat} {p : Pt} : ∀ (n : Nat) (own : List Pt), GI b h w p own → h * w ≤ own.length + n → GI b h w p (growN b h w n own) ∧ moreG b h w (growN b h w n own) = []
  | 0, own, I, hn => by
    refine ⟨I, ?_⟩
    have := I.grow.len
    rw [List.length_append] at this
    exact List.eq_nil_of_length_eq_zero (by show (moreG b h w own).length = 0; omega)
  | n + 1, own, I, hn => by
    by_cases e : moreG b h w own = []
    · rw [growN_stop e]
      exact ⟨I, e⟩
    · rw [growN]
      refine growN_end n _ I.grow ?_
      have : 0 < (moreG b h w own).length := List.length_pos_iff.mpr e
      rw [List.length_append]
      omega
theorem GI.all {b : Bd} {h w : Nat} {p : Pt} {own : List Pt} (S : Sz b h w) (I : GI b h w p own) (e : moreG b h w own = []) (x : Pt) : x ∈ own ↔ Reach (lnkP b) p x := by
  constructor
  · exact I.re x
  · intro hx
    induction hx with
    | refl => exact I.ip
    | @step y n _ h1 h2 ih =>
      by_cases z : n ∈ own
      · exact z
      · have : n ∈ moreG b h w own := mem_more.mpr ⟨lnkP_in S h2, h2, z, y, ih, h1⟩
        rw [e] at this
        cases this
theorem GI.start {b : Bd} {h w : Nat} {p : Pt} (hp : inR h w p) : GI b h w p [p] :=
  ⟨by simp, by simp, fun x hx => by rw [List.mem_singleton.mp hx]; exact .refl, fun x hx => by rw [List.mem_singleton.mp hx]; exact hp⟩
theorem GI.grp {b : Bd} {h w : Nat} {p : Pt} {own : List Pt} (S : Sz b h w) (h16 : h ≤ 16) (w16 : w ≤ 16) (I : GI b h w p own) (e : moreG b h w own = []) : srt own = PQ.grp b p := by
  unfold PQ.grp
  exact srt_eq I.nd (bfs_BI S h16 w16 p).nd fun x => by rw [I.all S e, (bfs_BI S h16 w16 p).all]
theorem growN_grp {b : Bd} {h w : Nat} {p : Pt} (S : Sz b h w) (h16 : h ≤ 16) (w16 : w ≤ 16) (hp : inR h w p) {n : Nat} (hn : h * w ≤ 1 + n) : srt (growN b h w n [p]) = grp b p := by
  obtain ⟨I, e⟩ := growN_end n [p] (GI.start (b := b) hp) hn
  exact I.grp S h16 w16 e
/-! ### turning as a whole -/
theorem atZ_turn1 {b : Bd} {h w : Nat} (S : Sz b h w) (p x : Pt) : atZ (turn1 b p) x = if x = p then (atZ b p).map oth else atZ b x := by
  unfold turn1
  cases e : atZ b p with
  | none =>
    show atZ b x = if x = p then none else atZ b x
    split
    · rename_i h; rw [h, e]
    · rfl
  | some s =>
    show atZ (setZ b p (oth s)) x = _
    rw [atZ_set S (atZ_some S e)]
    rfl
theorem atZ_turns {h w : Nat} : ∀ (ps : List Pt) (b : Bd), Sz b h w → ps.Nodup → ∀ x, atZ (turns b ps) x = if x ∈ ps then (atZ b x).map oth else atZ b x
  | [], b, S, _, x => by simp [turns]
  | p :: ps, b, S, nd, x => by
    obtain ⟨n1, n2⟩ := List.nodup_cons.mp nd
    show atZ (turns (turn1 b p) ps) x = _
    rw [atZ_turns ps (turn1 b p) S.turn1 n2, atZ_turn1 S]
    by_cases e : x = p
    · subst e
      rw [if_neg n1, if_pos rfl, if_pos List.mem_cons_self]
    · rw [if_neg e]
      by_cases e2 : x ∈ ps
      · rw [if_pos e2, if_pos (List.mem_cons_of_mem _ e2)]
      · rw [if_neg e2, if_neg (fun z => by rcases List.mem_cons.mp z with z | z; exact e z; exact e2 z)]
theorem turns_perm {b : Bd} {h w : Nat} (S : Sz b h w) {ps qs : List Pt} (n1 : ps.Nodup) (n2 : qs.Nodup) (h' : ∀ x, x ∈ ps ↔ x ∈ qs) : turns b ps = turns b qs := by
  refine bd_ext S.turns S.turns fun x _ => ?_
  rw [atZ_turns ps b S n1, atZ_turns qs b S n2]
  by_cases e : x ∈ ps
  · rw [if_pos e, if_pos ((h' x).mp e)]
  · rw [if_neg e, if_neg (fun z => e ((h' x).mpr z))]
/-- the board of a function -/
def mkB (h w : Nat) (f : Nat → Nat → Nat) : Bd := (List.range h).map fun r => (List.range w).map fun c => f r c
theorem mkB_sz (h w : Nat) (f : Nat → Nat → Nat) : Sz (mkB h w f) h w := ⟨by unfold mkB; simp, fun row hr => by
  obtain ⟨r, _, rfl⟩ := List.mem_map.mp hr
  simp⟩
theorem atN_mkB {h w : Nat} {f : Nat → Nat → Nat} {r c : Nat} (hr : r < h) (hc : c < w) : atN (mkB h w f) r c = some (f r c) := by
  unfold atN mkB
  rw [List.getElem?_map, List.getElem?_range hr]
  show ((List.range w).map fun c => f r c)[c]? = _
  rw [List.getElem?_map, List.getElem?_range hc]; rfl
theorem atZ_nat (b : Bd) (r c : Nat) : atZ b ((r : Int), (c : Int)) = atN b r c := by
  unfold atZ
  rw [if_pos ⟨by show (0 : Int) ≤ r; omega, by show (0 : Int) ≤ c; omega⟩]
  rfl
theorem mkB_eq {b : Bd} {h w : Nat} {f : Nat → Nat → Nat} (S : Sz b h w) (e : ∀ r c, r < h → c < w → atZ b ((r : Int), (c : Int)) = some (f r c)) : mkB h w f = b := by
  refine bd_ext (mkB_sz h w f) S fun p hp => ?_
  obtain ⟨p1, p2⟩ := p
  obtain ⟨h1, h2, h3, h4⟩ := hp
  simp only at h1 h2 h3 h4
  obtain ⟨r, rfl⟩ := Int.eq_ofNat_of_zero_le h1
  obtain ⟨c, rfl⟩ := Int.eq_ofNat_of_zero_le h3
  rw [e r c (by omega) (by omega)]
  exact (atZ_nat _ _ _).trans (atN_mkB (by omega) (by omega))
end PQ

/-! what the laws' own functions of boards compute: _law_turned, _law_group (forty turns), _law_fall (with places) -/
namespace PQ
open PySem PySem.Spec PyProof.Rows L2
open PySem.W (alike alikeAll dataLt dataLe)
section
variable {b : Bd} {h w : Nat}
theorem eqv_pt (p q : Pt) : PyData.eqv (ptD p) (ptD q) = decide (p = q) := by
  unfold ptD
  simp only [PyData.eqv, PyData.eqvAll, Bool.and_true]
  by_cases h1 : p.1 = q.1 <;> by_cases h2 : p.2 = q.2 <;> simp [h1, h2, Prod.ext_iff]
theorem plain_pt (p : Pt) : (ptD p).plain = true := rfl
theorem depth_pt (p : Pt) : (ptD p).depth ≤ 3 := by
  unfold ptD
  simp [PyData.depth, PyData.depthAll]
theorem any_pts (ps : List Pt) (p : Pt) : ((ps.map ptD).any fun y => PyData.eqv y (ptD p)) = decide (p ∈ ps) := by
  rw [Bool.eq_iff_iff, List.any_eq_true, decide_eq_true_iff]
  constructor
  · rintro ⟨d, hd, e⟩
    obtain ⟨y, hy, rfl⟩ := List.mem_map.mp hd
    rw [eqv_pt, decide_eq_true_iff] at e
    rw [← e]; exact hy
  · intro h
    exact ⟨ptD p, List.mem_map_of_mem h, by rw [eqv_pt]; simp⟩
theorem inOk_pts (ps : List Pt) (p : Pt) : inOk (ps.map ptD) (ptD p) = true := by
  unfold inOk
  rw [plain_pts, plain_pt, decide_eq_true (by have := depth_pt p; omega)]; rfl
theorem inD_ptsL (ps : List Pt) (p : Pt) : dInD (ptD p) (.list (ps.map ptD)) = .ok (.bool (decide (p ∈ ps))) := by
  show guardR (inOk (ps.map ptD) (ptD p)) (PyData.bool ((ps.map ptD).any fun y => PyData.eqv y (ptD p))) = _
  rw [inOk_pts, any_pts]; rfl
theorem inD_ptsT (ps : List Pt) (p : Pt) : dInD (ptD p) (.tuple (ps.map ptD)) = .ok (.bool (decide (p ∈ ps))) := by
  show guardR (inOk (ps.map ptD) (ptD p)) (PyData.bool ((ps.map ptD).any fun y => PyData.eqv y (ptD p))) = _
  rw [inOk_pts, any_pts]; rfl
theorem notInD_ptsL (ps : List Pt) (p : Pt) : dNotInD (ptD p) (.list (ps.map ptD)) = .ok (.bool (!decide (p ∈ ps))) := by
  have h1 : dIn (ptD p) (.list (ps.map ptD)) = .ok (.bool (decide (p ∈ ps))) := inD_ptsL ps p
  show dNotIn (ptD p) (.list (ps.map ptD)) = _
  unfold dNotIn
  rw [h1]; rfl
theorem big_nat {n : Nat} (h : n ≤ 100000) : big62 (n : Int) = true := big62_ok (by omega) (by omega)
theorem BOk.sq (B : BOk b h w) {r c : Nat} (hr : r < h) (hc : c < w) : ∃ row s, atZ b ((r : Int), (c : Int)) = some s ∧ s ∈ sgns ∧ row.length = w ∧ dIxD (bdD b) (.int (r : Int)) = .ok (.str (rowT row)) ∧ dIxD (.str (rowT row)) (.int (c : Int)) = .ok (sgS s) := by
  have hp : inR h w ((r : Int), (c : Int)) := ⟨by show (0 : Int) ≤ r; omega, by show (r : Int) < h; omega, by show (0 : Int) ≤ c; omega, by show (c : Int) < w; omega⟩
  obtain ⟨row, s, a1, a2, a3, a4⟩ := atZ_in B.sz hp
  exact ⟨row, s, a4, B.sg row (List.mem_of_getElem? a1) s (List.mem_of_getElem? a3), a2, at_row B hp a1, at_sign hp.2.2.1 B.w2 a2 a3⟩
/-! ### _law_turned -/
theorem disp_others (ρ : Rho) : eDisp [(eStr "L", eStr "R"), (eStr "R", eStr "L"), (eStr "<", eStr ">"), (eStr ">", eStr "<")] ρ = .ok c_OTHERS := by rfl
theorem f_lturned (B : BOk b h w) {ps : List Pt} (nd : ps.Nodup) (hp : ∀ p ∈ ps, ∃ s, atZ b p = some s ∧ swt s = true) {v : D} (hv : ∀ p, dInD (ptD p) v = .ok (.bool (decide (p ∈ ps)))) : F__law_turned [bdD b, v] = .ok (bdD (turns b ps)) := by
  obtain ⟨row0, hl0, q0, q1⟩ := B.row0
  have hh := B.h2
  have hww := B.w2
  have hbh := big_nat (n := h) (by omega)
  have hbw := big_nat (n := w) (by omega)
  let g : Nat → Nat → Nat := fun r c => (atZ (turns b ps) ((r : Int), (c : Int))).getD 0
  have hg : ∀ r c, r < h → c < w → atZ (turns b ps) ((r : Int), (c : Int)) = some (g r c) := by
    intro r c hr hc
    obtain ⟨row, s, a1, _⟩ := BOk.sq B hr hc
    show _ = some ((atZ (turns b ps) ((r : Int), (c : Int))).getD 0)
    rw [atZ_turns ps b B.sz nd, a1]
    split <;> rfl
  have c1 : ∀ (r : Nat), r < h → compR (cStep (aName 4) tTrue (eIte (tV (e2 dInD (eTup (eCons (eVar 3) (eCons (eVar 4) (eNil)))) (eVar 1))) (e2 dIxD (eVar 2) (e2 dIxD (e2 dIxD (eVar 0) (eVar 3)) (eVar 4))) (e2 dIxD (e2 dIxD (eVar 0) (eVar 3)) (eVar 4))) [.f (bdD b), .f v, .f c_OTHERS, .f (.int (r : Int)), .u]) (rgD 0 w) = .ok (((List.range w).map (g r)).map sgS) := by
    intro r hr
    rw [rgD_nat, List.map_map]
    refine compR_all _ _ _ fun c hc => ?_
    have hc := List.mem_range.mp hc
    obtain ⟨row, s, a1, a2, a3, a4, a5⟩ := BOk.sq B hr hc
    have h1 := hv ((r : Int), (c : Int))
    have h1 : dInD (.tuple [.int (r : Int), .int (c : Int)]) v = .ok (.bool (decide (((r : Int), (c : Int)) ∈ ps))) := h1
    have h2 := hg r c hr hc
    rw [atZ_turns ps b B.sz nd, a1] at h2
    by_cases q : ((r : Int), (c : Int)) ∈ ps
    · obtain ⟨s', z1, z2⟩ := hp _ q
      rw [a1] at z1
      cases z1
      have h3 := ix_others z2
      rw [if_pos q] at h2
      have h2 : oth s = g r c := Option.some.inj h2
      rw [decide_eq_true q] at h1
      simp [cStep, h1, a4, a5, h3, h2]
    · rw [if_neg q] at h2
      have h2 : s = g r c := Option.some.inj h2
      rw [decide_eq_false q] at h1
      simp [cStep, h1, a4, a5, h2]
  have c2 : compR (cStep (aName 3) tTrue (eM "str" dJoin (eStr "") (eCons (eComp (iRg1 (eA dLenD (eCons (e2 dIxD (eVar 0) (eInt 0)) (eNil)))) (aName 4) (tTrue) (eIte (tV (e2 dInD (eTup (eCons (eVar 3) (eCons (eVar 4) (eNil)))) (eVar 1))) (e2 dIxD (eVar 2) (e2 dIxD (e2 dIxD (eVar 0) (eVar 3)) (eVar 4))) (e2 dIxD (e2 dIxD (eVar 0) (eVar 3)) (eVar 4))) [4]) (eNil))) [.f (bdD b), .f v, .f c_OTHERS, .u, .u]) (rgD 0 h) = .ok ((mkB h w g).map fun r => PyData.str (rowT r)) := by
    rw [rgD_nat, show ((mkB h w g).map fun r => PyData.str (rowT r)) = (List.range h).map fun r => PyData.str (rowT ((List.range w).map (g r))) by unfold mkB; rw [List.map_map]; rfl]
    refine compR_all _ _ _ fun r hr => ?_
    have h1 := c1 r (List.mem_range.mp hr)
    have h2 := dJoin_row (r := (List.range w).map (g r)) (by simp; omega)
    have h3 : fits (rgD 0 w).length = true := fits_k (by rw [rgD_len]; omega)
    generalize hX : ((List.range w).map (g r)).map sgS = X at *
    have h4 : fits X.length = true := fits_k (by rw [← hX]; simp; omega)
    simp [cStep, q0, q1, hbw, h1, h2, h3, h4, tyName]
  have e : mkB h w g = turns b ps := mkB_eq B.sz.turns hg
  rw [e] at c2
  have h3 : fits (rgD 0 h).length = true := fits_k (by rw [rgD_len]; omega)
  have h5 := disp_others
  have hl := B.len
  have hlen : (turns b ps).length = h := (B.sz.turns (ps := ps)).len
  have h4 : fits ((turns b ps).map fun r => PyData.str (rowT r)).length = true := fits_k (by rw [List.length_map, hlen]; omega)
  unfold bdD at *
  generalize hX : ((turns b ps).map fun r => PyData.str (rowT r)) = X at *
  generalize hY : (b.map fun r => PyData.str (rowT r)) = Y at *
  show runD 5 S__law_turned _ = _
  simp [runD, S__law_turned, h5, hl, hbh, c2, h3, h4, dTuple]
/-! ### _law_group: forty turns -/
theorem adj_int (x a : Pt) : decide (((x.1 - a.1).natAbs : Int) + ((x.2 - a.2).natAbs : Int) = 1) = adj x a := by
  unfold adj
  congr 1
  apply propext
  omega
def rowG (b : Bd) (w : Nat) (own : List Pt) (r : Nat) : List Pt := ((List.range w).map fun (c : Nat) => (((r : Int), (c : Int)) : Pt)).filter fun x => lnkP b x && (!decide (x ∈ own) && own.any fun a => adj x a)
theorem moreG_rows (b : Bd) (h w : Nat) (own : List Pt) : moreG b h w own = (List.range h).flatMap (rowG b w own) := by
  unfold moreG cells
  rw [List.filter_flatMap]
  rfl
theorem dAny_map (bs : List Bool) : dAny [.list (bs.map .bool)] = .ok (.bool (bs.any id)) := by
  show (bools (bs.map .bool) >>= fun bs => R.ok (PyData.bool (bs.any id))) = _
  rw [bools_map]; rfl
theorem any_adj (own : List Pt) (r c : Int) (a0 a1 a3 a4 : Sl) : compR (cStep (aTup (aCons (aName 7) (aCons (aName 8) (aNil)))) tTrue (e2 dEq (e2 dAdd (eA dAbs (eCons (e2 dSub (eVar 5) (eVar 7)) (eNil))) (eA dAbs (eCons (e2 dSub (eVar 6) (eVar 8)) (eNil)))) (eInt 1)) [a0, a1, .f (.list (own.map ptD)), a3, a4, .f (.int r), .f (.int c), .u, .u]) (own.map ptD) = .ok ((own.map fun a => adj (r, c) a).map .bool) := by
  rw [List.map_map]
  refine compR_all _ _ _ fun a _ => ?_
  have h1 := adj_int (r, c) a
  simp only at h1
  generalize hO : own.map ptD = O
  simp only [Function.comp_apply, ← h1]
  simp [cStep, ptD]
  split <;> split <;> omega
theorem notIn_pt (own : List Pt) (r c : Int) : dNotIn (.tuple [.int r, .int c]) (.list (own.map ptD)) = .ok (.bool (!decide ((r, c) ∈ own))) := notInD_ptsL own (r, c)
theorem lg_row (B : BOk b h w) {own : List Pt} (hl : own.length ≤ 1000) {r : Nat} (hr : r < h) (a1 a3 : Sl) (more : D) :
    compR (cStep (aName 6) (tAndB (tV (e2 dInD (e2 dIxD (e2 dIxD (eVar 0) (eVar 5)) (eVar 6)) (eStr "<>"))) (tAndB (tV (e2 dNotInD (eTup (eCons (eVar 5) (eCons (eVar 6) (eNil)))) (eVar 2))) (tV (eA dAny (eCons (eComp (iSeq (eVar 2)) (aTup (aCons (aName 7) (aCons (aName 8) (aNil)))) (tTrue) (e2 dEq (e2 dAdd (eA dAbs (eCons (e2 dSub (eVar 5) (eVar 7)) (eNil))) (eA dAbs (eCons (e2 dSub (eVar 6) (eVar 8)) (eNil)))) (eInt 1)) [7, 8]) (eNil)))))) (eTup (eCons (eVar 5) (eCons (eVar 6) (eNil))))
      [.f (bdD b), a1, .f (.list (own.map ptD)), a3, .f more, .f (.int (r : Int)), .u, .u, .u]) (rgD 0 w) = .ok ((rowG b w own r).map ptD) := by
  rw [rgD_nat]
  unfold rowG
  rw [List.filter_map, List.map_map]
  refine compR_map (fun (c : Nat) => PyData.int (c : Int)) _ _ _ fun c hc => ?_
  have hc := List.mem_range.mp hc
  obtain ⟨row, s, z1, z2, z3, z4, z5⟩ := BOk.sq B hr hc
  have e1 : lnkP b ((r : Int), (c : Int)) = lnk s := by unfold lnkP; rw [z1]
  have n1 := notIn_pt own (r : Int) (c : Int)
  have j1 := fun x0 x1 x3 x4 => any_adj own (r : Int) (c : Int) x0 x1 x3 x4
  have j2 := dAny_map (own.map fun a => adj ((r : Int), (c : Int)) a)
  have hf : fits (own.map ptD).length = true := fits_k (by rw [List.length_map]; omega)
  have hbs : ((own.map fun a => adj ((r : Int), (c : Int)) a).map PyData.bool).length = own.length := by simp
  have hf2 : fits ((own.map fun a => adj ((r : Int), (c : Int)) a).map PyData.bool).length = true := fits_k (by rw [hbs]; omega)
  have ea : (own.map fun a => adj ((r : Int), (c : Int)) a).any id = own.any fun a => adj ((r : Int), (c : Int)) a := by rw [List.any_map]; rfl
  rw [ea] at j2
  simp only [Function.comp_apply, e1]
  generalize ((own.map fun a => adj ((r : Int), (c : Int)) a).map PyData.bool) = BB at *
  generalize hA : (own.any fun a => adj ((r : Int), (c : Int)) a) = A at *
  generalize hO : own.map ptD = O at *
  have i1 := in_linked s
  show cStep _ _ _ _ (PyData.int (c : Int)) = _
  cases hs : lnk s with
  | false =>
    rw [hs] at i1
    simp [-x_inDS, cStep, z4, z5, i1]
  | true =>
    rw [hs] at i1
    by_cases q : ((r : Int), (c : Int)) ∈ own
    · rw [decide_eq_true q] at n1
      simp [-x_inDS, cStep, z4, z5, i1, n1, q]
    · rw [decide_eq_false q] at n1
      cases A with
      | false => simp [-x_inDS, cStep, z4, z5, i1, n1, q, j1, j2, hf, hf2]
      | true => simp [-x_inDS, cStep, z4, z5, i1, n1, q, j1, j2, hf, hf2, ptD]
theorem rowG_len (b : Bd) (w : Nat) (own : List Pt) (r : Nat) : (rowG b w own r).length ≤ w := by
  unfold rowG
  exact Nat.le_trans (List.length_filter_le _ _) (by simp)
theorem lg_rows (B : BOk b h w) {own : List Pt} (hl : own.length ≤ 1000) : ∀ (rs : List Nat) (acc : List Pt), (∀ r ∈ rs, r < h) → acc.length + rs.length * w ≤ 10000 →
    forL (aName 5) B__law_group_1 [1, 3, 5, 6, 7, 8] (rs.map fun (r : Nat) => PyData.int (r : Int)) [.f (bdD b), .u, .f (.list (own.map ptD)), .u, .f (.list (acc.map ptD)), .u, .u, .u, .u] = .nx [.f (bdD b), .u, .f (.list (own.map ptD)), .u, .f (.list ((acc ++ rs.flatMap (rowG b w own)).map ptD)), .u, .u, .u, .u]
  | [], acc, _, _ => by rw [List.flatMap_nil, List.append_nil]; rfl
  | r :: rs, acc, hr, hn => by
    obtain ⟨row0, hl0, q0, q1⟩ := B.row0
    have hww := B.w2
    have hbw := big_nat (n := w) (by omega)
    have rl := rowG_len b w own r
    have en : (r :: rs).length * w = rs.length * w + w := by rw [List.length_cons, Nat.add_mul, Nat.one_mul]
    have ih := lg_rows B hl rs (acc ++ rowG b w own r) (fun x hx => hr x (List.mem_cons_of_mem _ hx)) (by rw [List.length_append]; omega)
    have g := lg_row B hl (hr r List.mem_cons_self) .u .u (.list (acc.map ptD))
    rw [List.map_cons, List.flatMap_cons, ← List.append_assoc]
    refine forL_next [.f (bdD b), .u, .f (.list (own.map ptD)), .u, .f (.list (acc.map ptD)), .f (.int (r : Int)), .u, .u, .u] [.f (bdD b), .u, .f (.list (own.map ptD)), .u, .f (.list ((acc ++ rowG b w own r).map ptD)), .f (.int (r : Int)), .u, .u, .u] (by rfl) ?_ (by rfl) ih
    rw [List.map_append]
    have h3 : fits (rgD 0 w).length = true := fits_k (by rw [rgD_len]; omega)
    generalize hX : (rowG b w own r).map ptD = X at *
    have e1 : X.length ≤ w := by rw [← hX, List.length_map]; exact rl
    have h4 : fits X.length = true := fits_k (by omega)
    generalize hY : acc.map ptD = Y at *
    have e2 : Y.length = acc.length := by rw [← hY, List.length_map]
    have h5 : fits (Y.length + X.length) = true := fits_k (by omega)
    simp [B__law_group_1, q0, q1, hbw, g, h3, h4, h5]
theorem lg_turns (B : BOk b h w) {p : Pt} : ∀ (ds : List D) (own : List Pt), GI b h w p own →
    forL (aName 3) B__law_group_2 [1, 3, 4, 5, 6, 7, 8] ds [.f (bdD b), .u, .f (.list (own.map ptD)), .u, .u, .u, .u, .u, .u] = .nx [.f (bdD b), .u, .f (.list ((growN b h w ds.length own).map ptD)), .u, .u, .u, .u, .u, .u]
  | [], own, _ => rfl
  | d :: ds, own, I => by
    have hh := B.h2
    have hww := B.w2
    have i1 := I.len
    have i2 := I.grow.len
    have hm : h * w ≤ 16 * 16 := Nat.mul_le_mul hh hww
    have g := lg_rows B (own := own) (by omega) (List.range h) [] (fun r hr => List.mem_range.mp hr) (by rw [List.length_range]; show 0 + _ ≤ _; omega)
    rw [List.nil_append, ← moreG_rows, ← rgD_nat] at g
    have ih := lg_turns B ds (own ++ moreG b h w own) I.grow
    have hbh := big_nat (n := h) (by omega)
    refine forL_next [.f (bdD b), .u, .f (.list (own.map ptD)), .f d, .u, .u, .u, .u, .u] [.f (bdD b), .u, .f (.list ((own ++ moreG b h w own).map ptD)), .u, .f (.list ((moreG b h w own).map ptD)), .u, .u, .u, .u] (by rfl) ?_ (by rfl) ih
    rw [List.length_append] at i2
    rw [List.map_append]
    generalize hX : (moreG b h w own).map ptD = X at *
    have e1 : X.length = (moreG b h w own).length := by rw [← hX, List.length_map]
    generalize hY : own.map ptD = Y at *
    have e2 : Y.length = own.length := by rw [← hY, List.length_map]
    have h5 : fits (Y.length + X.length) = true := fits_k (by omega)
    have hl := B.len
    simp at g
    simp [B__law_group_2, hl, hbh, g, h5]
theorem f_lgroup (B : BOk b h w) {p : Pt} (hp : inR h w p) (hm : h * w ≤ 41) : F__law_group [bdD b, ptD p] = .ok (.list ((grp b p).map ptD)) := by
  have g := lg_turns B (p := p) (rgD 0 40) [p] (GI.start hp)
  rw [rgD_len] at g
  have g2 := growN_grp (n := 40) B.sz B.h2 B.w2 hp (by omega)
  have g3 := (growN_end 40 [p] (GI.start (b := b) hp) (by show _ ≤ 1 + 40; omega)).1.len
  have h1 := sort_pts (growN b h w 40 [p])
  have h2 : sortOk ((growN b h w 40 [p]).map ptD) = true := sortOk_pts (by omega)
  rw [g2] at h1
  have hb : big62 40 = true := by rfl
  have g : forL (aName 3) B__law_group_2 [1, 3, 4, 5, 6, 7, 8] (rgD 0 40) [.f (bdD b), .u, .f (.list [ptD p]), .u, .u, .u, .u, .u, .u] = .nx [.f (bdD b), .u, .f (.list ((growN b h w 40 [p]).map ptD)), .u, .u, .u, .u, .u, .u] := g
  generalize (growN b h w 40 [p]).map ptD = X at *
  show runD 9 S__law_group _ = _
  simp [runD, S__law_group, hb, g, h1, h2]
end
end PQ

/-! places_with -/
namespace PQ
open PySem PySem.Spec PyProof.Rows L2
open PySem.W (alike alikeAll dataLt dataLe)
theorem enum_map (ds : List D) : enumD ds = (List.range ds.length).map fun j => PyData.tuple [.int (j : Nat), ds.getD j .none] := by
  apply List.ext_getElem?
  intro i
  rcases Nat.lt_or_ge i ds.length with l | l
  · have hl : i < (enumD ds).length := by rw [enumD_len]; exact l
    rw [List.getElem?_map, List.getElem?_range l, List.getElem?_eq_getElem hl]
    obtain ⟨x, h1, h2⟩ := enum_get (List.getElem?_eq_getElem hl)
    rw [h2, Option.map_some, List.getD_eq_getElem?_getD, h1]; rfl
  · rw [List.getElem?_eq_none (by rw [enumD_len]; exact l), List.getElem?_eq_none (by rw [List.length_map, List.length_range]; exact l)]
def sgP (b : Bd) (L : List Nat) (p : Pt) : Bool := match atZ b p with
  | some s => decide (s ∈ L)
  | none => false
def rowS (b : Bd) (w : Nat) (L : List Nat) (r : Nat) : List Pt := ((List.range w).map fun (c : Nat) => (((r : Int), (c : Int)) : Pt)).filter (sgP b L)
theorem cells_rows (b : Bd) (h w : Nat) (L : List Nat) : (cells h w).filter (sgP b L) = (List.range h).flatMap (rowS b w L) := by
  unfold cells
  rw [List.filter_flatMap]
  rfl
theorem rowS_len (b : Bd) (w : Nat) (L : List Nat) (r : Nat) : (rowS b w L r).length ≤ w := by
  unfold rowS
  exact Nat.le_trans (List.length_filter_le _ _) (by simp)
section
variable {b : Bd} {h w : Nat}
theorem plc_row (B : BOk b h w) {S : Str} {L : List Nat} (hL : S.cps.toList = L) {r : Nat} (hr : r < h) {row : List Nat} (e : b[r]? = some row) (hw : row.length = w) (a0 a2 : Sl) (x : D) :
    compR (cStep (aTup (aCons (aName 5) (aCons (aName 6) (aNil)))) (tV (e2 dInD (eVar 6) (eVar 1))) (eTup (eCons (eVar 3) (eCons (eVar 5) (eNil)))) [a0, .f (.str S), a2, .f (.int (r : Int)), .f x, .u, .u]) (enumD (row.map sgS)) = .ok ((rowS b w L r).map ptD) := by
  rw [enum_map, List.length_map, hw]
  unfold rowS
  rw [List.filter_map, List.map_map]
  refine compR_map _ _ _ _ fun c hc => ?_
  have hc := List.mem_range.mp hc
  have e1 : row[c]? = some (row[c]'(by omega)) := List.getElem?_eq_getElem (by omega)
  have e2 : (row.map sgS).getD c .none = sgS (row[c]'(by omega)) := by
    rw [List.getD_eq_getElem?_getD, List.getElem?_map, e1]; rfl
  have e3 : sgP b L ((r : Int), (c : Int)) = decide (row[c]'(by omega) ∈ L) := by
    unfold sgP
    rw [atZ_nat]
    unfold atN
    rw [e]
    show (match row[c]? with | some s => decide (s ∈ L) | none => false) = _
    rw [e1]
  have e4 : ∀ s : Nat, dInD (.str ⟨#[s]⟩) (.str S) = .ok (.bool (decide (s ∈ L))) := fun s => by rw [x_inDS, hL]
  simp only [Function.comp_apply, e2, e3]
  generalize row[c]'(by omega) = s at *
  have e4 := e4 s
  by_cases q : s ∈ L
  · rw [decide_eq_true q] at e4
    simp [-x_inDS, cStep, e4, q, ptD]
  · rw [decide_eq_false q] at e4
    simp [-x_inDS, cStep, e4, q]
theorem plc_rows (B : BOk b h w) {S : Str} {L : List Nat} (hL : S.cps.toList = L) : ∀ (rs : List Nat) (acc : List Pt), (∀ r ∈ rs, r < h) → acc.length + rs.length * w ≤ 10000 →
    forL (aTup (aCons (aName 3) (aCons (aName 4) (aNil)))) B_places_with_1 [0, 3, 4, 5, 6] (rs.map fun (r : Nat) => PyData.tuple [.int (r : Nat), (b.map fun r => PyData.str (rowT r)).getD r .none]) [.u, .f (.str S), .o (.list (acc.map ptD)), .u, .u, .u, .u] = .nx [.u, .f (.str S), .o (.list ((acc ++ rs.flatMap (rowS b w L)).map ptD)), .u, .u, .u, .u]
  | [], acc, _, _ => by rw [List.flatMap_nil, List.append_nil]; rfl
  | r :: rs, acc, hr, hn => by
    have rl := rowS_len b w L r
    have en : (r :: rs).length * w = rs.length * w + w := by rw [List.length_cons, Nat.add_mul, Nat.one_mul]
    have ih := plc_rows B hL rs (acc ++ rowS b w L r) (fun x hx => hr x (List.mem_cons_of_mem _ hx)) (by rw [List.length_append]; omega)
    have hr' := hr r List.mem_cons_self
    have e : b[r]? = some (b[r]'(by rw [B.sz.len]; exact hr')) := List.getElem?_eq_getElem _
    have hw := B.sz.row _ (List.getElem_mem (by rw [B.sz.len]; exact hr' : r < b.length))
    generalize b[r]'(by rw [B.sz.len]; exact hr') = row at e hw
    have g := plc_row B hL hr' e hw .u (.o (.list (acc.map ptD))) (.str (rowT row))
    have e2 : (b.map fun r => PyData.str (rowT r)).getD r .none = .str (rowT row) := by
      rw [List.getD_eq_getElem?_getD, List.getElem?_map, e]; rfl
    rw [List.map_cons, List.flatMap_cons, ← List.append_assoc, e2]
    refine forL_next [.u, .f (.str S), .o (.list (acc.map ptD)), .f (.int (r : Nat)), .f (.str (rowT row)), .u, .u] [.u, .f (.str S), .o (.list ((acc ++ rowS b w L r).map ptD)), .f (.int (r : Nat)), .f (.str (rowT row)), .u, .u] (by rfl) ?_ (by rfl) ih
    rw [List.map_append]
    have hel : (enumD (row.map sgS)).length = w := by rw [enumD_len, List.length_map, hw]
    have hww := B.w2
    have h3 : fits w = true := fits_k (by omega)
    generalize hX : (rowS b w L r).map ptD = X at *
    have e1 : X.length ≤ w := by rw [← hX, List.length_map]; exact rl
    have h4 : fits X.length = true := fits_k (by omega)
    generalize hY : acc.map ptD = Y at *
    have e3 : Y.length = acc.length := by rw [← hY, List.length_map]
    have h5 : fits (Y.length + X.length) = true := fits_k (by omega)
    simp [B_places_with_1, g, hel, h3, h4, h5]
theorem f_places (B : BOk b h w) {S : Str} {L : List Nat} (hL : S.cps.toList = L) : F_places_with [bdD b, .str S] = .ok (.list (((cells h w).filter (sgP b L)).map ptD)) := by
  have hh := B.h2
  have hww := B.w2
  have hm : h * w ≤ 16 * 16 := Nat.mul_le_mul hh hww
  have g := plc_rows B hL (List.range h) [] (fun r hr => List.mem_range.mp hr) (by rw [List.length_range]; show 0 + _ ≤ _; omega)
  rw [List.nil_append, ← cells_rows] at g
  have e : enumD (b.map fun r => PyData.str (rowT r)) = (List.range h).map fun (r : Nat) => PyData.tuple [.int (r : Nat), (b.map fun r => PyData.str (rowT r)).getD r .none] := by
    rw [enum_map, List.length_map, B.sz.len]
  rw [← e] at g
  have el : (enumD (b.map fun r => PyData.str (rowT r))).length = h := by rw [enumD_len, List.length_map, B.sz.len]
  have hf : fits h = true := fits_k (by omega)
  have fz : ∀ (L : List D), frz 2 [.u, .f (.str S), .o (.list L), .u, .u, .u, .u] = [.u, .f (.str S), .f (.list L), .u, .u, .u, .u] := fun L => by rw [frz_o (d := .list L) (by rfl)]; rfl
  have sq := bd_seq b
  generalize ((cells h w).filter (sgP b L)).map ptD = X at *
  generalize (b.map fun r => PyData.str (rowT r)) = Y at *
  show runD 7 S_places_with _ = _
  have g : forL (aTup (aCons (aName 3) (aCons (aName 4) (aNil)))) B_places_with_1 [0, 3, 4, 5, 6] (enumD Y) [.u, .f (.str S), .o (.list []), .u, .u, .u, .u] = .nx [.u, .f (.str S), .o (.list X), .u, .u, .u, .u] := g
  simp [runD, S_places_with, sq, g, fz]
end
end PQ

namespace PQ
open PySem PySem.Spec PyProof.Rows L2
open PySem.W (alike alikeAll dataLt dataLe)
/-- the end of a marble -/
inductive En where
  | out (c : Int)
  | stop (r c : Int)
  | left (r : Int)
  | right (r : Int)
  deriving DecidableEq
def En.d : En → D
  | .out c => outD c
  | .stop r c => stopD r c
  | .left r => leftD r
  | .right r => rightD r
/-- a fault -/
inductive Fl where
  | bent (p : Pt)
  | stuck (p : Pt)
  deriving DecidableEq
def Fl.d : Fl → D
  | .bent p => .tuple [.str "bent", .int p.1, .int p.2]
  | .stuck p => .tuple [.str "stuck", .int p.1, .int p.2]
def oF : Option Fl → D
  | none => .none
  | some f => f.d
theorem s_bs : ((Str.ofString "bent" : Str) == Str.ofString "stuck") = false := by decide +kernel
theorem s_sb : ((Str.ofString "stuck" : Str) == Str.ofString "bent") = false := by decide +kernel
theorem fl_plain (f : Fl) : f.d.plain = true := by cases f <;> rfl
theorem fl_depth (f : Fl) : f.d.depth ≤ 2 := by cases f <;> simp [Fl.d, PyData.depth, PyData.depthAll]
theorem oF_plain (f : Option Fl) : (oF f).plain = true := by cases f with | none => rfl | some f => exact fl_plain f
theorem oF_depth (f : Option Fl) : (oF f).depth ≤ 2 := by cases f with | none => simp [oF, PyData.depth] | some f => exact fl_depth f
theorem fl_eqv (f g : Fl) : PyData.eqv f.d g.d = decide (f = g) := by
  cases f with
  | bent p => cases g with
    | bent q =>
      simp only [Fl.d, PyData.eqv, PyData.eqvAll, Bool.and_true, beq_self_eq_true, Bool.true_and, Fl.bent.injEq]
      by_cases h1 : p.1 = q.1 <;> by_cases h2 : p.2 = q.2 <;> simp [h1, h2, Prod.ext_iff]
    | stuck q => simp [Fl.d, PyData.eqv, PyData.eqvAll, s_bs]
  | stuck p => cases g with
    | stuck q =>
      simp only [Fl.d, PyData.eqv, PyData.eqvAll, Bool.and_true, beq_self_eq_true, Bool.true_and, Fl.stuck.injEq]
      by_cases h1 : p.1 = q.1 <;> by_cases h2 : p.2 = q.2 <;> simp [h1, h2, Prod.ext_iff]
    | bent q => simp [Fl.d, PyData.eqv, PyData.eqvAll, s_sb]
theorem oF_eqv (f : Option Fl) (g : Fl) : PyData.eqv (oF f) g.d = decide (f = some g) := by
  cases f with
  | none => cases g <;> simp [oF, Fl.d, PyData.eqv]
  | some f =>
    show PyData.eqv f.d g.d = _
    rw [fl_eqv]
    simp
theorem oF_ok (f : Option Fl) (g : Fl) : eqOk (oF f) g.d = true := eqOk_of (oF_plain f) (fl_plain g) (by have := oF_depth f; omega)
theorem eq_bent (f : Option Fl) (r c : Int) : dEq (oF f) (.tuple [.str "bent", .int r, .int c]) = .ok (.bool (decide (f = some (.bent (r, c))))) := by
  show guardR (eqOk (oF f) (Fl.bent (r, c)).d) (PyData.bool (PyData.eqv (oF f) (Fl.bent (r, c)).d)) = _
  rw [oF_ok, oF_eqv]; rfl
theorem ne_stuck (f : Option Fl) (r c : Int) : dNe (oF f) (.tuple [.str "stuck", .int r, .int c]) = .ok (.bool (!decide (f = some (.stuck (r, c))))) := by
  show guardR (eqOk (oF f) (Fl.stuck (r, c)).d) (PyData.bool (!PyData.eqv (oF f) (Fl.stuck (r, c)).d)) = _
  rw [oF_ok, oF_eqv]; rfl
/-! ### falling with a fault -/
def fwR (w : Nat) (f : Option Fl) : List Nat → Bd → Int → Int → Bd × En
  | [], b, c, _ => (b, .out c)
  | r :: rs, b, c, way => match atZ b ((r : Int), c) with
    | none => (b, .out c)
    | some s => if s = 35 then (b, .stop r c) else
      let way2 := if f = some (.bent ((r : Int), c)) then 0 - wayS s way else wayS s way
      let b2 := if f = some (.stuck ((r : Int), c)) then b else behd b ((r : Int), c)
      if c + way2 < 0 then (b2, .left r) else if c + way2 = w then (b2, .right r) else fwR w f rs b2 (c + way2) way2
def fp1 : ES := sSet 5 (mF (e2 dIxD (e2 dIxD (eVar 0) (eVar 4)) (eVar 2)))
def fp2 : ES := sIf (tV (e2 dEq (eVar 5) (eD (c_STOP)))) (sRet (eTup (eCons (eVar 0) (eCons (eTup (eCons (eStr "stop") (eCons (eVar 4) (eCons (eVar 2) (eNil))))) (eNil))))) (sNil)
def fp3 : ES := sSet 3 (mF (eCall F_way_at (eCons (eVar 5) (eCons (eVar 3) (eNil)))))
def fp4 : ES := sIf (tV (e2 dEq (eVar 1) (eTup (eCons (eD (c_BENT)) (eCons (eVar 4) (eCons (eVar 2) (eNil))))))) (sSet 3 (mF (e2 dSub (eInt 0) (eVar 3)))) (sNil)
def fp5 : ES := sIf (tV (e2 dNe (eVar 1) (eTup (eCons (eD (c_STUCK)) (eCons (eVar 4) (eCons (eVar 2) (eNil))))))) (sSet 0 (mF (eCall F_behind (eCons (eVar 0) (eCons (eVar 4) (eCons (eVar 2) (eNil))))))) (sNil)
def fp6 : ES := sAug 2 dIAdd (eVar 3)
def fp7 : ES := sIf (tV (e1 dNotN (eCall F_beyond (eCons (eVar 0) (eCons (eVar 4) (eCons (eVar 2) (eNil))))))) (sRet (eTup (eCons (eVar 0) (eCons (eCall F_beyond (eCons (eVar 0) (eCons (eVar 4) (eCons (eVar 2) (eNil))))) (eNil))))) (sNil)
theorem fp_eq : B_fall_with_1 = sCons fp1 (sCons fp2 (sCons fp3 (sCons fp4 (sCons fp5 (sCons fp6 fp7))))) := rfl
def lw1 : ES := sSet 5 (mF (e2 dIxD (e2 dIxD (eVar 0) (eVar 4)) (eVar 2)))
def lw2 : ES := sIf (tV (e2 dEq (eVar 5) (eStr "#"))) (sRet (eTup (eCons (eVar 0) (eCons (eTup (eCons (eStr "stop") (eCons (eVar 4) (eCons (eVar 2) (eNil))))) (eNil))))) (sNil)
def lw3 : ES := sSet 3 (mF (eIte (tV (e2 dEq (eVar 5) (eStr "X"))) (eVar 3) (eIte (tV (e2 dEq (eVar 5) (eStr "."))) (eInt 0) (eIte (tV (e2 dInD (eVar 5) (eStr "\\R>"))) (eInt 1) (e1 dNeg (eInt 1))))))
def lw4 : ES := sSet 3 (mF (eIte (tV (e2 dEq (eVar 1) (eTup (eCons (eStr "bent") (eCons (eVar 4) (eCons (eVar 2) (eNil))))))) (e2 dSub (eInt 0) (eVar 3)) (eVar 3)))
def lw5 : ES := sIf (tAndB (tV (e2 dInD (eVar 5) (eStr "LR<>"))) (tV (e2 dNe (eVar 1) (eTup (eCons (eStr "stuck") (eCons (eVar 4) (eCons (eVar 2) (eNil)))))))) (sSet 0 (mF (eCall F__law_turned (eCons (eVar 0) (eCons (eIte (tV (e2 dInD (eVar 5) (eStr "LR"))) (eLst (eCons (eTup (eCons (eVar 4) (eCons (eVar 2) (eNil)))) (eNil))) (eCall F__law_group (eCons (eVar 0) (eCons (eTup (eCons (eVar 4) (eCons (eVar 2) (eNil)))) (eNil))))) (eNil)))))) (sNil)
def lw6 : ES := sSet 2 (mF (e2 dAdd (eVar 2) (eVar 3)))
def lw7 : ES := sIf (tOrB (tV (e2 dLt (eVar 2) (eInt 0))) (tV (e2 dEq (eVar 2) (eA dLenD (eCons (e2 dIxD (eVar 0) (eInt 0)) (eNil)))))) (sRet (eTup (eCons (eVar 0) (eCons (eTup (eCons (eIte (tV (e2 dLt (eVar 2) (eInt 0))) (eStr "left") (eStr "right")) (eCons (eVar 4) (eNil)))) (eNil))))) (sNil)
theorem lw_eq : B__law_with_1 = sCons lw1 (sCons lw2 (sCons lw3 (sCons lw4 (sCons lw5 (sCons lw6 lw7))))) := rfl
theorem seqS {S S' : ES} {ρ ρ1 : Rho} {o : Out} (h : S ρ = .nx ρ1) (h2 : S' ρ1 = o) : sCons S S' ρ = o := by rw [x_sCons, h, thn_nx, h2]
theorem seqR {S S' : ES} {ρ : Rho} {v : D} (h : S ρ = .ret v) : sCons S S' ρ = .ret v := by rw [x_sCons, h]; rfl
section
variable {b : Bd} {h w : Nat}
theorem way_neg {s : Nat} {way : Int} (f : Option Fl) (p : Pt) (h : -1 ≤ way ∧ way ≤ 1) : -1 ≤ (if f = some (.bent p) then 0 - wayS s way else wayS s way) ∧ (if f = some (.bent p) then 0 - wayS s way else wayS s way) ≤ 1 := by
  have := wayS_le s h
  split <;> omega
theorem wt_for (f : Option Fl) : ∀ (rs : List Nat) (b : Bd) (c way : Int), BOk b h w → (0 ≤ c ∧ c < w) → (-1 ≤ way ∧ way ≤ 1) → (∀ r ∈ rs, r < h) →
    (forL (aName 4) B_fall_with_1 [4, 5] (rs.map fun (r : Nat) => PyData.int r) [.f (bdD b), .f (oF f), .f (.int c), .f (.int way), .u, .u]).thn (sRet (eTup (eCons (eVar 0) (eCons (eTup (eCons (eStr "out") (eCons (eVar 2) (eNil)))) (eNil))))) = .ret (.tuple [bdD (fwR w f rs b c way).1, (fwR w f rs b c way).2.d])
  | [], b, c, way, B, hc, hw', hr => by
    show (Out.nx [.f (bdD b), .f (oF f), .f (.int c), .f (.int way), .u, .u]).thn _ = _
    simp [fwR, En.d]
  | r :: rs, b, c, way, B, hc, hw', hr => by
    have hp : inR h w ((r : Int), c) := ⟨by show (0 : Int) ≤ r; omega, by show (r : Int) < h; have := hr r List.mem_cons_self; omega, hc.1, hc.2⟩
    obtain ⟨row, s, a1, a2, a3, a4⟩ := atZ_in B.sz hp
    have g1 := at_row B hp a1
    have g2 := at_sign hp.2.2.1 B.w2 a2 a3
    have hs : s ∈ sgns := B.sg row (List.mem_of_getElem? a1) s (List.mem_of_getElem? a3)
    have gb := f_behind B hp
    have g1 : dIxD (bdD b) (.int (r : Int)) = .ok (.str (rowT row)) := g1
    have g2 : dIxD (.str (rowT row)) (.int c) = .ok (sgS s) := g2
    have gb : F_behind [bdD b, .int (r : Int), .int c] = .ok (bdD (behd b ((r : Int), c))) := gb
    have k1 := eq_bent f (r : Int) c
    have k2 := ne_stuck f (r : Int) c
    rw [List.map_cons]
    unfold fwR
    rw [a4]
    have hA : aName 4 (.int (r : Int)) [.f (bdD b), .f (oF f), .f (.int c), .f (.int way), .u, .u] = .ok [.f (bdD b), .f (oF f), .f (.int c), .f (.int way), .f (.int (r : Int)), .u] := rfl
    have p1 : fp1 [.f (bdD b), .f (oF f), .f (.int c), .f (.int way), .f (.int (r : Int)), .u] = .nx [.f (bdD b), .f (oF f), .f (.int c), .f (.int way), .f (.int (r : Int)), .f (sgS s)] := by
      simp [fp1, g1, g2]
    by_cases h35 : s = 35
    · subst h35
      have hB : B_fall_with_1 [.f (bdD b), .f (oF f), .f (.int c), .f (.int way), .f (.int (r : Int)), .u] = .ret (.tuple [bdD b, stopD r c]) := by
        rw [fp_eq]
        refine seqS p1 (seqR ?_)
        simp [fp2, l_hash, sg_eq]
      rw [forL_ret hA hB]
      rfl
    · have gw := f_way hs h35 way
      simp only [if_neg h35]
      have hw2 := way_neg (s := s) f ((r : Int), c) hw'
      generalize hW : wayS s way = W1 at *
      obtain ⟨W, B2, eW, eB⟩ : ∃ W B2 , W = (if f = some (.bent ((r : Int), c)) then 0 - W1 else W1) ∧ B2 = (if f = some (.stuck ((r : Int), c)) then b else behd b ((r : Int), c)) := ⟨_, _, rfl, rfl⟩
      rw [← eW, ← eB]
      rw [← eW] at hw2
      have OB2 : BOk B2 h w := by rw [eB]; split; exact B; exact B.behd _
      have gy := f_beyond OB2 (r : Int) (c + W)
      have p2 : fp2 [.f (bdD b), .f (oF f), .f (.int c), .f (.int way), .f (.int (r : Int)), .f (sgS s)] = .nx [.f (bdD b), .f (oF f), .f (.int c), .f (.int way), .f (.int (r : Int)), .f (sgS s)] := by
        simp [fp2, l_hash, sg_eq, h35]
      have p3 : fp3 [.f (bdD b), .f (oF f), .f (.int c), .f (.int way), .f (.int (r : Int)), .f (sgS s)] = .nx [.f (bdD b), .f (oF f), .f (.int c), .f (.int W1), .f (.int (r : Int)), .f (sgS s)] := by
        simp [fp3, gw]
      have p4 : fp4 [.f (bdD b), .f (oF f), .f (.int c), .f (.int W1), .f (.int (r : Int)), .f (sgS s)] = .nx [.f (bdD b), .f (oF f), .f (.int c), .f (.int W), .f (.int (r : Int)), .f (sgS s)] := by
        rw [eW]
        generalize oF f = FD at *
        by_cases q : f = some (.bent ((r : Int), c))
        · rw [decide_eq_true q] at k1
          simp [fp4, k1, q]
        · rw [decide_eq_false q] at k1
          simp [fp4, k1, q]
      have p5 : fp5 [.f (bdD b), .f (oF f), .f (.int c), .f (.int W), .f (.int (r : Int)), .f (sgS s)] = .nx [.f (bdD B2), .f (oF f), .f (.int c), .f (.int W), .f (.int (r : Int)), .f (sgS s)] := by
        rw [eB]
        generalize oF f = FD at *
        by_cases q : f = some (.stuck ((r : Int), c))
        · rw [decide_eq_true q] at k2
          simp [fp5, k2, q]
        · rw [decide_eq_false q] at k2
          simp [fp5, k2, q, gb]
      have p6 : fp6 [.f (bdD B2), .f (oF f), .f (.int c), .f (.int W), .f (.int (r : Int)), .f (sgS s)] = .nx [.f (bdD B2), .f (oF f), .f (.int (c + W)), .f (.int W), .f (.int (r : Int)), .f (sgS s)] := by
        simp [fp6]
      have hB : ∀ o, fp7 [.f (bdD B2), .f (oF f), .f (.int (c + W)), .f (.int W), .f (.int (r : Int)), .f (sgS s)] = o → B_fall_with_1 [.f (bdD b), .f (oF f), .f (.int c), .f (.int way), .f (.int (r : Int)), .u] = o := fun o ho => by
        rw [fp_eq]
        exact seqS p1 (seqS p2 (seqS p3 (seqS p4 (seqS p5 (seqS p6 ho)))))
      by_cases q1 : c + W < 0
      · rw [if_pos q1] at gy
        rw [forL_ret hA (hB (.ret (.tuple [bdD B2, leftD r])) (by simp [fp7, gy]))]
        simp only [if_pos q1]
        rfl
      · rw [if_neg q1] at gy
        by_cases q2 : c + W = w
        · rw [if_pos q2] at gy
          rw [forL_ret hA (hB (.ret (.tuple [bdD B2, rightD r])) (by simp [fp7, gy]))]
          simp only [if_neg q1, if_pos q2]
          rfl
        · rw [if_neg q2] at gy
          simp only [if_neg q1, if_neg q2]
          rw [forL_cons _ _ _ _ _ _ _ _ hA (.inl (hB (.nx [.f (bdD B2), .f (oF f), .f (.int (c + W)), .f (.int W), .f (.int (r : Int)), .f (sgS s)]) (by simp [fp7, gy])))]
          exact wt_for f rs B2 (c + W) W OB2 ⟨by omega, by omega⟩ hw2 (fun r' hr' => hr r' (List.mem_cons_of_mem _ hr'))
def fw (h w : Nat) (f : Option Fl) (b : Bd) (c : Int) : Bd × En := fwR w f (List.range h) b c 0
theorem f_fall_with (B : BOk b h w) (f : Option Fl) {c : Int} (hc : 0 ≤ c ∧ c < w) : F_fall_with [bdD b, oF f, .int c] = .ok (.tuple [bdD (fw h w f b c).1, (fw h w f b c).2.d]) := by
  have hh := B.h2
  have g := wt_for f (List.range h) b c 0 B hc (by omega) (fun r hr => List.mem_range.mp hr)
  have hb := big_nat (n := h) (by omega)
  rw [← rgD_nat] at g
  have hl := B.len
  show runD 6 S_fall_with _ = _
  generalize hO : oF f = FD at *
  simp only [runD, S_fall_with, x_sCons]
  simp [hl, hb] at g ⊢
  rw [g]; rfl
end
end PQ

namespace PQ
open PySem PySem.Spec PyProof.Rows L2
open PySem.W (alike alikeAll dataLt dataLe)
section
variable {b : Bd} {h w : Nat}
theorem l_rgt : (Str.ofString "\\R>").cps.toList = [92, 82, 62] := by decide +kernel
theorem l_LR : (Str.ofString "LR").cps.toList = [76, 82] := by decide +kernel
theorem in_switches (s : Nat) : dInD (.str ⟨#[s]⟩) (.str (Str.ofString "LR<>")) = .ok (.bool (swt s)) := by
  rw [x_inDS, l_switches]
  congr 2
  unfold swt lnk
  by_cases h1 : s = 76 <;> by_cases h2 : s = 82 <;> by_cases h3 : s = 60 <;> by_cases h4 : s = 62 <;> simp [h1, h2, h3, h4]
theorem in_LR {s : Nat} (hs : swt s = true) : dInD (.str ⟨#[s]⟩) (.str (Str.ofString "LR")) = .ok (.bool (!lnk s)) := by
  rw [x_inDS, l_LR]
  congr 2
  unfold swt lnk at hs
  unfold lnk
  by_cases h1 : s = 76 <;> by_cases h2 : s = 82 <;> by_cases h3 : s = 60 <;> by_cases h4 : s = 62 <;> simp_all
theorem in_rgt (s : Nat) : dInD (.str ⟨#[s]⟩) (.str (Str.ofString "\\R>")) = .ok (.bool (decide (s ∈ [92, 82, 62]))) := by
  rw [x_inDS, l_rgt]
theorem lt_for (hm : h * w ≤ 41) (f : Option Fl) : ∀ (rs : List Nat) (b : Bd) (c way : Int), BOk b h w → (0 ≤ c ∧ c < w) → (-1 ≤ way ∧ way ≤ 1) → (∀ r ∈ rs, r < h) →
    (forL (aName 4) B__law_with_1 [4, 5] (rs.map fun (r : Nat) => PyData.int r) [.f (bdD b), .f (oF f), .f (.int c), .f (.int way), .u, .u]).thn (sRet (eTup (eCons (eVar 0) (eCons (eTup (eCons (eStr "out") (eCons (eVar 2) (eNil)))) (eNil))))) = .ret (.tuple [bdD (fwR w f rs b c way).1, (fwR w f rs b c way).2.d])
  | [], b, c, way, B, hc, hw', hr => by
    show (Out.nx [.f (bdD b), .f (oF f), .f (.int c), .f (.int way), .u, .u]).thn _ = _
    simp [fwR, En.d]
  | r :: rs, b, c, way, B, hc, hw', hr => by
    have hp : inR h w ((r : Int), c) := ⟨by show (0 : Int) ≤ r; omega, by show (r : Int) < h; have := hr r List.mem_cons_self; omega, hc.1, hc.2⟩
    obtain ⟨row, s, a1, a2, a3, a4⟩ := atZ_in B.sz hp
    have g1 := at_row B hp a1
    have g2 := at_sign hp.2.2.1 B.w2 a2 a3
    have hs : s ∈ sgns := B.sg row (List.mem_of_getElem? a1) s (List.mem_of_getElem? a3)
    have g1 : dIxD (bdD b) (.int (r : Int)) = .ok (.str (rowT row)) := g1
    have g2 : dIxD (.str (rowT row)) (.int c) = .ok (sgS s) := g2
    have k1 := eq_bent f (r : Int) c
    have k2 := ne_stuck f (r : Int) c
    rw [List.map_cons]
    unfold fwR
    rw [a4]
    have hA : aName 4 (.int (r : Int)) [.f (bdD b), .f (oF f), .f (.int c), .f (.int way), .u, .u] = .ok [.f (bdD b), .f (oF f), .f (.int c), .f (.int way), .f (.int (r : Int)), .u] := rfl
    have p1 : lw1 [.f (bdD b), .f (oF f), .f (.int c), .f (.int way), .f (.int (r : Int)), .u] = .nx [.f (bdD b), .f (oF f), .f (.int c), .f (.int way), .f (.int (r : Int)), .f (sgS s)] := by
      simp [lw1, g1, g2]
    by_cases h35 : s = 35
    · subst h35
      have hB : B__law_with_1 [.f (bdD b), .f (oF f), .f (.int c), .f (.int way), .f (.int (r : Int)), .u] = .ret (.tuple [bdD b, stopD r c]) := by
        rw [lw_eq]
        refine seqS p1 (seqR ?_)
        simp [lw2, l_hash, sg_eq]
      rw [forL_ret hA hB]
      rfl
    · simp only [if_neg h35]
      have hw2 := way_neg (s := s) f ((r : Int), c) hw'
      have p3 : lw3 [.f (bdD b), .f (oF f), .f (.int c), .f (.int way), .f (.int (r : Int)), .f (sgS s)] = .nx [.f (bdD b), .f (oF f), .f (.int c), .f (.int (wayS s way)), .f (.int (r : Int)), .f (sgS s)] := by
        have k := in_rgt s
        by_cases e1 : s = 88
        · subst e1; simp [-x_inDS, lw3, l_X, l_dot, sg_eq, wayS]
        · by_cases e2 : s = 46
          · subst e2; simp [-x_inDS, lw3, l_X, l_dot, sg_eq, wayS]
          · have e3 : decide (s ∈ [92, 82, 62]) = decide (s = 92 ∨ s = 82 ∨ s = 62) := by simp
            rw [e3] at k
            by_cases e4 : s = 92 ∨ s = 82 ∨ s = 62
            · rw [decide_eq_true e4] at k
              simp [-x_inDS, lw3, l_X, l_dot, sg_eq, wayS, e1, e2, e4, k]
            · rw [decide_eq_false e4] at k
              simp [-x_inDS, lw3, l_X, l_dot, sg_eq, wayS, e1, e2, e4, k]
      generalize hW : wayS s way = W1 at *
      obtain ⟨W, B2, eW, eB⟩ : ∃ W B2 , W = (if f = some (.bent ((r : Int), c)) then 0 - W1 else W1) ∧ B2 = (if f = some (.stuck ((r : Int), c)) then b else behd b ((r : Int), c)) := ⟨_, _, rfl, rfl⟩
      rw [← eW, ← eB]
      rw [← eW] at hw2
      have OB2 : BOk B2 h w := by rw [eB]; split; exact B; exact B.behd _
      have p2 : lw2 [.f (bdD b), .f (oF f), .f (.int c), .f (.int way), .f (.int (r : Int)), .f (sgS s)] = .nx [.f (bdD b), .f (oF f), .f (.int c), .f (.int way), .f (.int (r : Int)), .f (sgS s)] := by
        simp [lw2, l_hash, sg_eq, h35]
      have p4 : lw4 [.f (bdD b), .f (oF f), .f (.int c), .f (.int W1), .f (.int (r : Int)), .f (sgS s)] = .nx [.f (bdD b), .f (oF f), .f (.int c), .f (.int W), .f (.int (r : Int)), .f (sgS s)] := by
        rw [eW]
        generalize oF f = FD at *
        by_cases q : f = some (.bent ((r : Int), c))
        · rw [decide_eq_true q] at k1
          simp [lw4, k1, q]
        · rw [decide_eq_false q] at k1
          simp [lw4, k1, q]
      have p5 : lw5 [.f (bdD b), .f (oF f), .f (.int c), .f (.int W), .f (.int (r : Int)), .f (sgS s)] = .nx [.f (bdD B2), .f (oF f), .f (.int c), .f (.int W), .f (.int (r : Int)), .f (sgS s)] := by
        rw [eB]
        have i1 := in_switches s
        have e0 : behd b ((r : Int), c) = if swt s = true then (if lnk s = true then turns b (grp b ((r : Int), c)) else turns b [((r : Int), c)]) else b := by
          unfold behd; rw [a4]
        generalize oF f = FD at *
        cases hsw : swt s with
        | false =>
          rw [hsw] at i1 e0
          rw [e0]
          simp [-x_inDS, lw5, i1]
        | true =>
          rw [hsw] at i1 e0
          by_cases q : f = some (.stuck ((r : Int), c))
          · rw [decide_eq_true q] at k2
            simp [-x_inDS, lw5, i1, k2, q]
          · rw [decide_eq_false q] at k2
            have i2 := in_LR hsw
            cases hl : lnk s with
            | false =>
              rw [hl] at i2 e0
              have e0 : behd b ((r : Int), c) = turns b [((r : Int), c)] := e0
              have t := f_lturned B (ps := [((r : Int), c)]) (by simp) (fun p hp => by rw [List.mem_singleton.mp hp]; exact ⟨s, a4, hsw⟩) (inD_ptsL _)
              have ep : ptD ((r : Int), c) = .tuple [.int (r : Int), .int c] := rfl
              rw [List.map_cons, List.map_nil, ep] at t
              rw [e0]
              simp [-x_inDS, lw5, i1, k2, q, i2, t]
            | true =>
              rw [hl] at i2 e0
              have e0 : behd b ((r : Int), c) = turns b (grp b ((r : Int), c)) := e0
              have t := f_lturned B (ps := grp b ((r : Int), c)) (grp_nd B.sz B.h2 B.w2 _) (grp_ok B.sz a4 hl) (inD_ptsL _)
              have t2 := f_lgroup B hp hm
              have ep : ptD ((r : Int), c) = .tuple [.int (r : Int), .int c] := rfl
              rw [ep] at t2
              generalize (grp b ((r : Int), c)).map ptD = GP at *
              rw [e0]
              simp [-x_inDS, lw5, i1, k2, q, i2, t, t2]
      have p6 : lw6 [.f (bdD B2), .f (oF f), .f (.int c), .f (.int W), .f (.int (r : Int)), .f (sgS s)] = .nx [.f (bdD B2), .f (oF f), .f (.int (c + W)), .f (.int W), .f (.int (r : Int)), .f (sgS s)] := by
        simp [lw6]
      have hB : ∀ o, lw7 [.f (bdD B2), .f (oF f), .f (.int (c + W)), .f (.int W), .f (.int (r : Int)), .f (sgS s)] = o → B__law_with_1 [.f (bdD b), .f (oF f), .f (.int c), .f (.int way), .f (.int (r : Int)), .u] = o := fun o ho => by
        rw [lw_eq]
        exact seqS p1 (seqS p2 (seqS p3 (seqS p4 (seqS p5 (seqS p6 ho)))))
      obtain ⟨row0, hl0, q0, q1'⟩ := OB2.row0
      by_cases q1 : c + W < 0
      · rw [forL_ret hA (hB (.ret (.tuple [bdD B2, leftD r])) (by simp [lw7, q0, q1', q1]))]
        simp only [if_pos q1]
        rfl
      · by_cases q2 : c + W = w
        · have q3 : ¬ ((w : Int) < 0) := by omega
          rw [forL_ret hA (hB (.ret (.tuple [bdD B2, rightD r])) (by simp [lw7, q0, q1', q1, q2, q3]))]
          simp only [if_neg q1, if_pos q2]
          rfl
        · simp only [if_neg q1, if_neg q2]
          rw [forL_cons _ _ _ _ _ _ _ _ hA (.inl (hB (.nx [.f (bdD B2), .f (oF f), .f (.int (c + W)), .f (.int W), .f (.int (r : Int)), .f (sgS s)]) (by simp [lw7, q0, q1', q1, q2])))]
          exact lt_for hm f rs B2 (c + W) W OB2 ⟨by omega, by omega⟩ hw2 (fun r' hr' => hr r' (List.mem_cons_of_mem _ hr'))
theorem f_law_with (B : BOk b h w) (hm : h * w ≤ 41) (f : Option Fl) {c : Int} (hc : 0 ≤ c ∧ c < w) : F__law_with [bdD b, oF f, .int c] = .ok (.tuple [bdD (fw h w f b c).1, (fw h w f b c).2.d]) := by
  have hh := B.h2
  have g := lt_for hm f (List.range h) b c 0 B hc (by omega) (fun r hr => List.mem_range.mp hr)
  have hb := big_nat (n := h) (by omega)
  rw [← rgD_nat] at g
  have hl := B.len
  show runD 6 S__law_with _ = _
  generalize hO : oF f = FD at *
  simp only [runD, S__law_with, x_sCons]
  simp [hl, hb] at g ⊢
  rw [g]; rfl
/-! ### rows of ends -/
theorem fwR_ok (f : Option Fl) : ∀ (rs : List Nat) (b : Bd) (c way : Int), BOk b h w → BOk (fwR w f rs b c way).1 h w
  | [], b, c, way, B => B
  | r :: rs, b, c, way, B => by
    unfold fwR
    cases e : atZ b ((r : Int), c) with
    | none => exact B
    | some s =>
      have B2 : BOk (if f = some (.stuck ((r : Int), c)) then b else behd b ((r : Int), c)) h w := by split; exact B; exact B.behd _
      simp only
      generalize (if f = some (.stuck ((r : Int), c)) then b else behd b ((r : Int), c)) = b2 at *
      generalize (if f = some (.bent ((r : Int), c)) then 0 - wayS s way else wayS s way) = w2 at *
      split
      · exact B
      · split
        · exact B2
        · split
          · exact B2
          · exact fwR_ok f rs _ _ _ B2
theorem fw_ok (B : BOk b h w) (f : Option Fl) (c : Int) : BOk (fw h w f b c).1 h w := fwR_ok f _ _ _ _ B
def endsW (h w : Nat) (f : Option Fl) : List Int → Bd → List En
  | [], _ => []
  | c :: cs, b => (fw h w f b c).2 :: endsW h w f cs (fw h w f b c).1
theorem endsW_len (f : Option Fl) : ∀ (cs : List Int) (b : Bd), (endsW h w f cs b).length = cs.length
  | [], _ => rfl
  | c :: cs, b => by rw [endsW, List.length_cons, List.length_cons, endsW_len f cs]
def csD (cs : List Int) : D := .tuple (cs.map .int)
theorem pe_for (f : Option Fl) : ∀ (cs : List Int) (b : Bd) (es : List D), BOk b h w → (∀ c ∈ cs, 0 ≤ c ∧ c < (w : Int)) → es.length + cs.length ≤ 1000 →
    ∃ b2, forL (aName 4) B_ends_in_1 [2, 4, 5] (cs.map PyData.int) [.f (bdD b), .f (oF f), .u, .o (.list es), .u, .u] = .nx [b2, .f (oF f), .u, .o (.list (es ++ (endsW h w f cs b).map En.d)), .u, .u]
  | [], b, es, _, _, _ => ⟨.f (bdD b), by simp only [endsW, List.map_nil, List.append_nil]; rfl⟩
  | c :: cs, b, es, B, hc, hl => by
    rw [List.length_cons] at hl
    obtain ⟨b2, ih⟩ := pe_for f cs (fw h w f b c).1 (es ++ [(fw h w f b c).2.d]) (fw_ok B f c) (fun x hx => hc x (List.mem_cons_of_mem _ hx)) (by rw [List.length_append]; show es.length + 1 + _ ≤ _; omega)
    refine ⟨b2, ?_⟩
    have g := f_fall_with B f (hc c List.mem_cons_self)
    rw [List.map_cons, endsW, List.map_cons, show es ++ (fw h w f b c).2.d :: (endsW h w f cs (fw h w f b c).1).map En.d = es ++ [(fw h w f b c).2.d] ++ (endsW h w f cs (fw h w f b c).1).map En.d by simp]
    refine forL_next [.f (bdD b), .f (oF f), .u, .o (.list es), .f (.int c), .u] [.f (bdD (fw h w f b c).1), .f (oF f), .u, .o (.list (es ++ [(fw h w f b c).2.d])), .f (.int c), .f (fw h w f b c).2.d] (by rfl) ?_ (by rfl) ih
    have hf : fits (es.length + 1) = true := fits_k (by omega)
    generalize oF f = FD at *
    simp [B_ends_in_1, g, hf]
theorem le_for (hm : h * w ≤ 41) (f : Option Fl) : ∀ (cs : List Int) (b : Bd) (es : List D), BOk b h w → (∀ c ∈ cs, 0 ≤ c ∧ c < (w : Int)) → es.length + cs.length ≤ 1000 →
    ∃ b2, forL (aName 4) B__law_ends_1 [2, 4, 5] (cs.map PyData.int) [.f (bdD b), .f (oF f), .u, .o (.list es), .u, .u] = .nx [b2, .f (oF f), .u, .o (.list (es ++ (endsW h w f cs b).map En.d)), .u, .u]
  | [], b, es, _, _, _ => ⟨.f (bdD b), by simp only [endsW, List.map_nil, List.append_nil]; rfl⟩
  | c :: cs, b, es, B, hc, hl => by
    rw [List.length_cons] at hl
    obtain ⟨b2, ih⟩ := le_for hm f cs (fw h w f b c).1 (es ++ [(fw h w f b c).2.d]) (fw_ok B f c) (fun x hx => hc x (List.mem_cons_of_mem _ hx)) (by rw [List.length_append]; show es.length + 1 + _ ≤ _; omega)
    refine ⟨b2, ?_⟩
    have g := f_law_with B hm f (hc c List.mem_cons_self)
    rw [List.map_cons, endsW, List.map_cons, show es ++ (fw h w f b c).2.d :: (endsW h w f cs (fw h w f b c).1).map En.d = es ++ [(fw h w f b c).2.d] ++ (endsW h w f cs (fw h w f b c).1).map En.d by simp]
    refine forL_next [.f (bdD b), .f (oF f), .u, .o (.list es), .f (.int c), .u] [.f (bdD (fw h w f b c).1), .f (oF f), .u, .o (.list (es ++ [(fw h w f b c).2.d])), .f (.int c), .f (fw h w f b c).2.d] (by rfl) ?_ (by rfl) ih
    have hf : fits (es.length + 1) = true := fits_k (by omega)
    generalize oF f = FD at *
    simp [B__law_ends_1, g, hf]
/-- the ends as data -/
def esD (es : List En) : D := .tuple (es.map En.d)
theorem f_ends_in (B : BOk b h w) (f : Option Fl) {cs : List Int} (hc : ∀ c ∈ cs, 0 ≤ c ∧ c < (w : Int)) (hl : cs.length ≤ 200) : F_ends_in [bdD b, oF f, csD cs] = .ok (esD (endsW h w f cs b)) := by
  obtain ⟨b2, lp⟩ := pe_for f cs b [] B hc (by show 0 + _ ≤ _; omega)
  rw [List.nil_append] at lp
  have sq : seqOf (csD cs) = .ok (cs.map .int) := rfl
  have hf : fits cs.length = true := fits_k (by omega)
  have fz : ∀ (x y : Sl) (L : List D), frz 3 [x, y, .u, .o (.list L), .u, .u] = [x, y, .u, .f (.list L), .u, .u] := fun x y L => by rw [frz_o (d := .list L) (by rfl)]; rfl
  show runD 6 S_ends_in _ = _
  unfold esD
  generalize (endsW h w f cs b).map En.d = EE at lp ⊢
  generalize csD cs = CD at sq ⊢
  generalize oF f = FD at *
  simp [runD, S_ends_in, sq, lp, fz, dTuple, hf]
theorem f_law_ends (B : BOk b h w) (hm : h * w ≤ 41) (f : Option Fl) {cs : List Int} (hc : ∀ c ∈ cs, 0 ≤ c ∧ c < (w : Int)) (hl : cs.length ≤ 200) : F__law_ends [bdD b, oF f, csD cs] = .ok (esD (endsW h w f cs b)) := by
  obtain ⟨b2, lp⟩ := le_for hm f cs b [] B hc (by show 0 + _ ≤ _; omega)
  rw [List.nil_append] at lp
  have sq : seqOf (csD cs) = .ok (cs.map .int) := rfl
  have hf : fits cs.length = true := fits_k (by omega)
  have fz : ∀ (x y : Sl) (L : List D), frz 3 [x, y, .u, .o (.list L), .u, .u] = [x, y, .u, .f (.list L), .u, .u] := fun x y L => by rw [frz_o (d := .list L) (by rfl)]; rfl
  show runD 6 S__law_ends _ = _
  unfold esD
  generalize (endsW h w f cs b).map En.d = EE at lp ⊢
  generalize csD cs = CD at sq ⊢
  generalize oF f = FD at *
  simp [runD, S__law_ends, sq, lp, fz, dTuple, hf]
end
end PQ

namespace PQ
open PySem PySem.Spec PyProof.Rows L2
open PySem.W (alike alikeAll dataLt dataLe)
def bents (b : Bd) (h w : Nat) : List Pt := (cells h w).filter (sgP b [47, 92])
def stucks (b : Bd) (h w : Nat) : List Pt := (cells h w).filter (sgP b [76, 82])
/-- all faults of a board -/
def flts (b : Bd) (h w : Nat) : List Fl := (bents b h w).map .bent ++ (stucks b h w).map .stuck
def fsD (fs : List Fl) : List D := fs.map Fl.d
theorem l_slopes : (Str.ofString "/\\").cps.toList = [47, 92] := by decide +kernel
section
variable {b : Bd} {h w : Nat}
theorem flts_len (B : BOk b h w) : (flts b h w).length ≤ 512 := by
  have hm : h * w ≤ 16 * 16 := Nat.mul_le_mul B.h2 B.w2
  have := cells_len h w
  unfold flts bents stucks
  rw [List.length_append, List.length_map, List.length_map]
  have a := List.length_filter_le (sgP b [47, 92]) (cells h w)
  have c := List.length_filter_le (sgP b [76, 82]) (cells h w)
  omega
theorem flts_nd : (flts b h w).Nodup := by
  unfold flts bents stucks
  rw [List.nodup_append]
  refine ⟨?_, ?_, fun x hx y hy e => ?_⟩
  · exact List.pairwise_map.mpr (((cells_nd h w).filter _).imp fun h e => h (by injection e))
  · exact List.pairwise_map.mpr (((cells_nd h w).filter _).imp fun h e => h (by injection e))
  · obtain ⟨p, _, rfl⟩ := List.mem_map.mp hx
    obtain ⟨q, _, rfl⟩ := List.mem_map.mp hy
    cases e
theorem f_faults_in (B : BOk b h w) : F_faults_in [bdD b] = .ok (.list (fsD (flts b h w))) := by
  have hm : h * w ≤ 16 * 16 := Nat.mul_le_mul B.h2 B.w2
  have hcl := cells_len h w
  have g1 := f_places B l_slopes
  have g2 := f_places B l_LR
  have c1 : ∀ x : Sl, compR (cStep (aTup (aCons (aName 2) (aCons (aName 3) (aNil)))) tTrue (eTup (eCons (eD (c_BENT)) (eCons (eVar 2) (eCons (eVar 3) (eNil))))) [.f (bdD b), x, .u, .u]) ((bents b h w).map ptD) = .ok (((bents b h w).map Fl.bent).map Fl.d) := by
    intro x
    rw [List.map_map]
    exact compR_all _ _ _ fun p _ => by simp [cStep, ptD, Fl.d]
  have c2 : ∀ x : Sl, compR (cStep (aTup (aCons (aName 2) (aCons (aName 3) (aNil)))) tTrue (eTup (eCons (eD (c_STUCK)) (eCons (eVar 2) (eCons (eVar 3) (eNil))))) [.f (bdD b), x, .u, .u]) ((stucks b h w).map ptD) = .ok (((stucks b h w).map Fl.stuck).map Fl.d) := by
    intro x
    rw [List.map_map]
    exact compR_all _ _ _ fun p _ => by simp [cStep, ptD, Fl.d]
  have e : fsD (flts b h w) = ((bents b h w).map Fl.bent).map Fl.d ++ ((stucks b h w).map Fl.stuck).map Fl.d := by unfold fsD flts; rw [List.map_append]
  have n1 : (bents b h w).length ≤ 256 := by have := List.length_filter_le (sgP b [47, 92]) (cells h w); unfold bents; omega
  have n2 : (stucks b h w).length ≤ 256 := by have := List.length_filter_le (sgP b [76, 82]) (cells h w); unfold stucks; omega
  have f1 : fits ((bents b h w).map ptD).length = true := fits_k (by rw [List.length_map]; omega)
  have f2 : fits ((stucks b h w).map ptD).length = true := fits_k (by rw [List.length_map]; omega)
  have f3 : fits ((((bents b h w).map Fl.bent).map Fl.d).length + (((stucks b h w).map Fl.stuck).map Fl.d).length) = true := fits_k (by simp; omega)
  have g1 : F_places_with [bdD b, c_SLOPES] = .ok (.list ((bents b h w).map ptD)) := g1
  have g2 : F_places_with [bdD b, c_FREE] = .ok (.list ((stucks b h w).map ptD)) := g2
  rw [e]
  generalize (bents b h w).map ptD = X1 at *
  generalize (stucks b h w).map ptD = X2 at *
  generalize ((bents b h w).map Fl.bent).map Fl.d = Y1 at *
  generalize ((stucks b h w).map Fl.stuck).map Fl.d = Y2 at *
  show runD 4 S_faults_in _ = _
  simp [runD, S_faults_in, g1, g2, f1, f2, c1, c2, f3]
theorem f_faults_of (B : BOk b h w) : F_faults_of [bdD b] = .ok (.tuple (fsD (flts b h w))) := by
  have g1 := f_check_board B
  have g2 := f_faults_in B
  have hl := flts_len B
  have hf : fits (fsD (flts b h w)).length = true := fits_k (by unfold fsD; rw [List.length_map]; omega)
  generalize fsD (flts b h w) = X at *
  show runD 1 S_faults_of _ = _
  simp [runD, S_faults_of, g1, g2, dTuple, hf]
abbrev xB : Exc := ⟨"BadBoard", []⟩
abbrev xF : Exc := ⟨"BadFault", []⟩
abbrev xC : Exc := ⟨"BadColumn", []⟩
abbrev xCs : Exc := ⟨"BadColumns", []⟩
theorem dEq_fl (f g : Fl) : dEq f.d g.d = .ok (.bool (decide (f = g))) := by
  show guardR (eqOk f.d g.d) (PyData.bool (PyData.eqv f.d g.d)) = _
  rw [eqOk_of (fl_plain f) (fl_plain g) (by have := fl_depth f; omega), fl_eqv]; rfl
theorem any_fault (v : D) (P : Fl → Bool) (hv : ∀ g ∈ flts b h w, dEq v g.d = .ok (.bool (P g))) : compR (cStep (aName 2) tTrue (e2 dEq (eVar 1) (eVar 2)) [.f (bdD b), .f v, .u]) (fsD (flts b h w)) = .ok (((flts b h w).map P).map .bool) := by
  rw [List.map_map]
  unfold fsD
  exact compR_all _ _ _ fun g hg => by
    have := hv g hg
    simp [cStep, this]
theorem f_check_fault (B : BOk b h w) {f : Fl} (hf : f ∈ flts b h w) : F_check_fault [bdD b, f.d] = .ok .none := by
  have g2 := f_faults_in B
  have hl := flts_len B
  have c := any_fault (b := b) (h := h) (w := w) f.d (fun g => decide (f = g)) fun g _ => dEq_fl f g
  have a := dAny_map ((flts b h w).map fun g => decide (f = g))
  have e : ((flts b h w).map fun g => decide (f = g)).any id = true := by
    rw [List.any_map, List.any_eq_true]
    exact ⟨f, hf, by simp⟩
  rw [e] at a
  have hf : fits (fsD (flts b h w)).length = true := fits_k (by unfold fsD; rw [List.length_map]; omega)
  have e3 : ∀ f : Fl, dLenD [f.d] = .ok (.int 3) := fun f => by cases f <;> rfl
  have e4 : ∀ f : Fl, dIsi' "tuple" f.d = .ok (.bool true) := fun f => by cases f <;> rfl
  have e5 : ∀ f : Fl, ∃ i j, dIxD f.d (.int 1) = .ok (.int i) ∧ dIxD f.d (.int 2) = .ok (.int j) := fun f => by cases f with | bent p => exact ⟨_, _, rfl, rfl⟩ | stuck p => exact ⟨_, _, rfl, rfl⟩
  have e3 := e3 f
  have e4 := e4 f
  obtain ⟨i, j, e5, e6⟩ := e5 f
  have hl2 : (((flts b h w).map fun g => decide (f = g)).map PyData.bool).length = (flts b h w).length := by simp
  have hf2 : fits (((flts b h w).map fun g => decide (f = g)).map PyData.bool).length = true := fits_k (by omega)
  generalize ((flts b h w).map fun g => decide (f = g)).map PyData.bool = BB at *
  generalize f.d = FD at *
  generalize fsD (flts b h w) = X at *
  show runD 3 S_check_fault _ = _
  simp [runD, S_check_fault, e3, e4, e5, e6, g2, hf, hf2, c, a, isaB, tyName]
end
end PQ

/-! things told by data that may be keys -/
namespace PQ
open PySem PySem.Spec PyProof.Rows L2
open PySem.W (alike alikeAll dataLt dataLe)
structure KeyF {α : Type} (φ : α → D) (κ : α → NestedKey) : Prop where
  key : ∀ x, keyD (φ x) = some (κ x)
  tk : ∀ x, tupKB (φ x) = true
  nb : ∀ x, noB (φ x) = true
  inj : ∀ x y, κ x = κ y → x = y
  dp : ∀ x, (φ x).depth ≤ 30
mutual
theorem noB_plain : ∀ d : D, noB d = true → d.plain = true
  | .none, _ => rfl
  | .int _, _ => rfl
  | .str _, _ => rfl
  | .tuple ds, h => noBs_plain ds h
  | .bool _, h => by simp [noB] at h
  | .list _, h => by simp [noB] at h
  | .dict _, h => by simp [noB] at h
theorem noBs_plain : ∀ ds : List D, noBs ds = true → PyData.plainAll ds = true
  | [], _ => rfl
  | d :: ds, h => by
    have h : noB d = true ∧ noBs ds = true := by simpa [noBs] using h
    show (d.plain && PyData.plainAll ds) = true
    rw [noB_plain d h.1, noBs_plain ds h.2]; rfl
end
theorem of_map {α β : Type} {φ : α → β} : ∀ {ds : List β}, (∀ d ∈ ds, ∃ x, d = φ x) → ∃ xs : List α, ds = xs.map φ
  | [], _ => ⟨[], rfl⟩
  | d :: ds, h => by
    obtain ⟨x, hx⟩ := h d (List.mem_cons_self ..)
    obtain ⟨xs, hxs⟩ := of_map fun e he => h e (List.mem_cons_of_mem _ he)
    exact ⟨x :: xs, by rw [List.map_cons, hx, hxs]⟩
section
variable {α : Type} [DecidableEq α] {φ : α → D} {κ : α → NestedKey}
theorem KeyF.back (F : KeyF φ κ) (x : α) : (κ x).data = φ x := key_back (φ x) (κ x) (F.nb x) (F.key x)
theorem KeyF.pl (F : KeyF φ κ) (x : α) : (φ x).plain = true := noB_plain _ (F.nb x)
theorem KeyF.eqv (F : KeyF φ κ) (a b : α) : PyData.eqv (φ a) (φ b) = decide (a = b) := by
  rw [Bool.eq_iff_iff, decide_eq_true_iff]
  constructor
  · intro h
    exact F.inj _ _ (data_eqv (κ a) (κ b) (by rw [F.back, F.back]; exact h))
  · rintro rfl
    exact eqv_refl _ (F.pl a)
theorem KeyF.ok (F : KeyF φ κ) (a b : α) : eqOk (φ a) (φ b) = true := eqOk_of (F.pl a) (F.pl b) (by have := F.dp a; omega)
theorem KeyF.dEq (F : KeyF φ κ) (a b : α) : dEq (φ a) (φ b) = .ok (.bool (decide (a = b))) := by
  show guardR (eqOk (φ a) (φ b)) (PyData.bool (PyData.eqv (φ a) (φ b))) = _
  rw [F.ok, F.eqv]; rfl
theorem KeyF.dNe (F : KeyF φ κ) (a b : α) : dNe (φ a) (φ b) = .ok (.bool (!decide (a = b))) := by
  show guardR (eqOk (φ a) (φ b)) (PyData.bool (!PyData.eqv (φ a) (φ b))) = _
  rw [F.ok, F.eqv]; rfl
theorem KeyF.eqvs (F : KeyF φ κ) : ∀ as bs : List α, PyData.eqvAll (as.map φ) (bs.map φ) = decide (as = bs)
  | [], [] => by simp [PyData.eqvAll]
  | [], b :: bs => by simp [PyData.eqvAll]
  | a :: as, [] => by simp [PyData.eqvAll]
  | a :: as, b :: bs => by
    rw [List.map_cons, List.map_cons, PyData.eqvAll, F.eqvs as bs, F.eqv a b]
    by_cases h : a = b <;> simp [h]
theorem KeyF.pls (F : KeyF φ κ) : ∀ as : List α, PyData.plainAll (as.map φ) = true
  | [] => rfl
  | a :: as => by
    show ((φ a).plain && PyData.plainAll (as.map φ)) = true
    rw [F.pl, F.pls as]; rfl
theorem KeyF.dps (F : KeyF φ κ) : ∀ as : List α, PyData.depthAll (as.map φ) ≤ 30
  | [] => by show 0 ≤ 30; omega
  | a :: as => by
    have := F.dp a
    have := F.dps as
    show max (φ a).depth (PyData.depthAll (as.map φ)) ≤ 30
    omega
theorem depth_tup (ds : List D) : (PyData.tuple ds).depth = 1 + PyData.depthAll ds := by
  show PyData.depth _ = _
  unfold PyData.depth
  omega
theorem depth_lst (ds : List D) : (PyData.list ds).depth = 1 + PyData.depthAll ds := by
  show PyData.depth _ = _
  unfold PyData.depth
  omega
theorem KeyF.okT (F : KeyF φ κ) (as bs : List α) : eqOk (.tuple (as.map φ)) (.tuple (bs.map φ)) = true :=
  eqOk_of (F.pls as) (F.pls bs) (by rw [depth_tup]; have := F.dps as; omega)
theorem KeyF.okL (F : KeyF φ κ) (as bs : List α) : eqOk (.list (as.map φ)) (.list (bs.map φ)) = true :=
  eqOk_of (F.pls as) (F.pls bs) (by rw [depth_lst]; have := F.dps as; omega)
theorem KeyF.dEqT (F : KeyF φ κ) (as bs : List α) : PQ.dEq (.tuple (as.map φ)) (.tuple (bs.map φ)) = .ok (.bool (decide (as = bs))) := by
  show guardR (eqOk (.tuple (as.map φ)) (.tuple (bs.map φ))) (PyData.bool (PyData.eqvAll (as.map φ) (bs.map φ))) = _
  rw [F.okT, F.eqvs]; rfl
theorem KeyF.dNeT (F : KeyF φ κ) (as bs : List α) : PQ.dNe (.tuple (as.map φ)) (.tuple (bs.map φ)) = .ok (.bool (!decide (as = bs))) := by
  show guardR (eqOk (.tuple (as.map φ)) (.tuple (bs.map φ))) (PyData.bool (!PyData.eqvAll (as.map φ) (bs.map φ))) = _
  rw [F.okT, F.eqvs]; rfl
theorem KeyF.dNeL (F : KeyF φ κ) (as bs : List α) : PQ.dNe (.list (as.map φ)) (.list (bs.map φ)) = .ok (.bool (!decide (as = bs))) := by
  show guardR (eqOk (.list (as.map φ)) (.list (bs.map φ))) (PyData.bool (!PyData.eqvAll (as.map φ) (bs.map φ))) = _
  rw [F.okL, F.eqvs]; rfl
/-! ### sorted(set(..)) -/
theorem KeyF.noBs (F : KeyF φ κ) : ∀ xs : List α, PQ.noBs (xs.map φ) = true
  | [] => rfl
  | x :: xs => by
    show (noB (φ x) && PQ.noBs (xs.map φ)) = true
    rw [F.nb, F.noBs xs]; rfl
theorem KeyF.kinj (F : KeyF φ κ) {l : List α} (h : l.Nodup) : (l.map κ).Nodup := List.pairwise_map.mpr (h.imp fun h e => h (F.inj _ _ e))
theorem KeyF.sortOk (F : KeyF φ κ) {vs : List α} (hl : vs.length ≤ 4000) (hal : ∀ x ∈ vs, ∀ y ∈ vs, alike (φ x) (φ y) = true) (hne : ∀ x ∈ vs, tupNE (φ x) = true) : PQ.sortOk (vs.map φ) = true := by
  unfold PQ.sortOk
  have h1 : fits (vs.map φ).length = true := fits_ok (by rw [List.length_map]; omega)
  have h2 : allAlikeB (vs.map φ) = true := by
    unfold allAlikeB
    rw [List.all_eq_true]
    intro d hd
    rw [List.all_eq_true]
    intro d' hd'
    obtain ⟨x, hx, rfl⟩ := List.mem_map.mp hd
    obtain ⟨y, hy, rfl⟩ := List.mem_map.mp hd'
    exact hal x hx y hy
  have h3 : (vs.map φ).all tupNE = true := by
    rw [List.all_eq_true]
    intro d hd
    obtain ⟨x, hx, rfl⟩ := List.mem_map.mp hd
    exact hne x hx
  have h4 : decide (PyData.depthAll (vs.map φ) ≤ 60) = true := decide_eq_true (by have := F.dps vs; omega)
  rw [h1, F.pls, h2, h3, h4]; rfl
theorem KeyF.sorted (F : KeyF φ κ) {vs : List α} (hl : vs.length ≤ 4000) (hal : ∀ x ∈ vs, ∀ y ∈ vs, alike (φ x) (φ y) = true) (hne : ∀ x ∈ vs, tupNE (φ x) = true) : dSortedD [.list (vs.map φ)] = .ok (.list (sortL (vs.map φ))) := by
  show guardR (PQ.sortOk (vs.map φ)) (PyData.list (sortL (vs.map φ))) = _
  rw [F.sortOk hl hal hne]; rfl
theorem KeyF.sortset (F : KeyF φ κ) {xs vs : List α} (hl : xs.length ≤ 4000) (nd : vs.Nodup) (hm : ∀ x, x ∈ vs ↔ x ∈ xs) (hal : ∀ x ∈ xs, ∀ y ∈ xs, alike (φ x) (φ y) = true) (hne : ∀ x ∈ xs, tupNE (φ x) = true) : dSortSet (.list (xs.map φ)) = .ok (.list (sortL (vs.map φ))) := by
  have hk : keysT (xs.map φ) = xs.map κ := by
    unfold keysT
    rw [List.filterMap_map]
    have : (keyD ∘ φ) = fun x => some (κ x) := funext F.key
    rw [this, List.filterMap_eq_map']
  obtain ⟨zs, hz⟩ : ∃ zs : List α, nubN (xs.map κ) = zs.map κ := of_map fun d hd => by
    obtain ⟨x, _, rfl⟩ := List.mem_map.mp (nubN_mem.mp hd)
    exact ⟨x, rfl⟩
  have zn : zs.Nodup := by
    have := nubN_nodup (xs.map κ)
    rw [hz] at this
    exact (List.pairwise_map.mp this).imp fun h e => h (by rw [e])
  have zm : ∀ x, x ∈ zs ↔ x ∈ xs := fun x => by
    have := nubN_mem (ks := xs.map κ) (j := κ x)
    rw [hz] at this
    constructor
    · intro h
      obtain ⟨y, hy, e⟩ := List.mem_map.mp (this.mp (List.mem_map_of_mem h))
      rw [← F.inj _ _ e]; exact hy
    · intro h
      obtain ⟨y, hy, e⟩ := List.mem_map.mp (this.mpr (List.mem_map_of_mem h))
      rw [← F.inj _ _ e]; exact hy
  have bk : ∀ l : List α, (l.map κ).map NestedKey.data = l.map φ := fun l => by
    rw [List.map_map]
    congr 1
    funext x
    exact F.back x
  have e : nubD (xs.map φ) = zs.map φ := by
    unfold nubD
    rw [hk, hz, bk]
  have zp : zs.Perm vs := (List.perm_ext_iff_of_nodup zn nd).mpr fun x => by rw [zm, hm]
  have zl : zs.length ≤ xs.length := by
    have h2 : ∀ (l l' : List α), l.Nodup → (∀ x ∈ l, x ∈ l') → l.length ≤ l'.length := by
      intro l
      induction l with
      | nil => intro l' _ _; exact Nat.zero_le _
      | cons a l ih =>
        intro l' h s
        obtain ⟨h1, h2⟩ := List.nodup_cons.mp h
        have ha := s a (List.mem_cons_self ..)
        have := ih (l'.erase a) h2 fun x hx => (List.mem_erase_of_ne (fun e => h1 (by rw [← e]; exact hx))).mpr (s x (List.mem_cons_of_mem _ hx))
        rw [List.length_erase_of_mem ha] at this
        have : 1 ≤ l'.length := List.length_pos_of_mem ha
        rw [List.length_cons]
        omega
    exact h2 zs xs zn fun x hx => (zm x).mp hx
  have so := F.sortOk (vs := zs) (by omega) (fun x hx y hy => hal x ((zm x).mp hx) y ((zm y).mp hy)) (fun x hx => hne x ((zm x).mp hx))
  have es : sortL (zs.map φ) = sortL (vs.map φ) := by
    have := sort_perm (zp.map κ) (by
      rw [bk]
      intro d hd d' hd'
      obtain ⟨x, hx, rfl⟩ := List.mem_map.mp hd
      obtain ⟨y, hy, rfl⟩ := List.mem_map.mp hd'
      exact hal x ((hm x).mp hx) y ((hm y).mp hy))
    rw [bk, bk] at this
    exact this
  show guardR (setOk (xs.map φ) && PQ.noBs (xs.map φ) && decide ((xs.map φ).length ≤ 4000) && PQ.sortOk (nubD (xs.map φ))) (PyData.list (sortL (nubD (xs.map φ)))) = _
  have s1 : setOk (xs.map φ) = true := by
    unfold setOk
    rw [Bool.and_eq_true, List.length_map]
    refine ⟨?_, decide_eq_true (by omega)⟩
    rw [List.all_eq_true]
    intro d hd
    obtain ⟨y, _, rfl⟩ := List.mem_map.mp hd
    exact F.tk y
  rw [e, s1, F.noBs, so, decide_eq_true (by rw [List.length_map]; exact hl), es]; rfl
/-! ### dicts -/
theorem KeyF.same (F : KeyF φ κ) (x y : α) : sameK (φ x) (φ y) = decide (x = y) := by
  rw [keyD_same (F.key x) (F.key y)]
  congr 1
  exact propext ⟨F.inj x y, fun h => by rw [h]⟩
/-- a dict with the values v -/
def kvD {β : Type} (φ : α → D) (v : β → D) (gs : List (α × β)) : List (D × D) := gs.map fun g => (φ g.1, v g.2)
theorem KeyF.okK {β : Type} (F : KeyF φ κ) (v : β → D) (gs : List (α × β)) (x : α) : okK (kvD φ v gs) (φ x) = true := by
  unfold PQ.okK okKs kvD
  rw [List.map_map, Bool.or_eq_true]
  refine .inr ?_
  rw [List.all_eq_true]
  intro d hd
  rcases List.mem_cons.mp hd with rfl | hd
  · exact F.tk x
  · obtain ⟨y, _, rfl⟩ := List.mem_map.mp hd
    exact F.tk _
def lookA {β : Type} (x : α) : List (α × β) → Option β
  | [] => none
  | g :: gs => if g.1 = x then some g.2 else lookA x gs
theorem KeyF.find {β : Type} (F : KeyF φ κ) (v : β → D) (x : α) : ∀ gs : List (α × β), dFind (kvD φ v gs) (φ x) = (lookA x gs).map v
  | [] => rfl
  | g :: gs => by
    have ih := F.find v x gs
    unfold dFind kvD at *
    rw [List.map_cons, List.find?_cons, F.same]
    unfold lookA
    by_cases h : g.1 = x
    · rw [decide_eq_true h, if_pos h]; rfl
    · rw [decide_eq_false h, if_neg h]
      exact ih
/-- the value under x made y -/
def putA {β : Type} (x : α) (y : β) (gs : List (α × β)) : List (α × β) := if gs.any (fun g => decide (g.1 = x)) then gs.map (fun g => if g.1 = x then (g.1, y) else g) else gs ++ [(x, y)]
theorem KeyF.put {β : Type} (F : KeyF φ κ) (v : β → D) (x : α) (y : β) (gs : List (α × β)) : dPutL (kvD φ v gs) (φ x) (v y) = kvD φ v (putA x y gs) := by
  unfold dPutL putA
  have h1 : (kvD φ v gs).any (fun p => sameK p.1 (φ x)) = gs.any (fun g => decide (g.1 = x)) := by
    unfold kvD
    rw [List.any_map]
    congr 1
    funext g
    exact F.same _ _
  rw [h1]
  split
  · unfold kvD
    rw [List.map_map, List.map_map, List.map_inj_left]
    intro g _
    show (if sameK (φ g.1) (φ x) = true then (φ g.1, v y) else (φ g.1, v g.2)) = _
    rw [F.same]
    by_cases h : g.1 = x
    · rw [if_pos (by simpa using h)]
      show _ = (φ (if g.1 = x then (g.1, y) else g).1, v (if g.1 = x then (g.1, y) else g).2)
      rw [if_pos h]
    · rw [if_neg (by simpa using h)]
      show _ = (φ (if g.1 = x then (g.1, y) else g).1, v (if g.1 = x then (g.1, y) else g).2)
      rw [if_neg h]
  · unfold kvD
    rw [List.map_append]; rfl
/-! ### rows of such things -/
theorem KeyF.kds (F : KeyF φ κ) : ∀ xs : List α, keyDs (xs.map φ) = some (xs.map κ)
  | [] => rfl
  | x :: xs => by
    rw [List.map_cons, List.map_cons, keyDs, F.kds xs, F.key]; rfl
theorem kdepths {κ : α → NestedKey} (h : ∀ x, (κ x).depth ≤ 7) : ∀ xs : List α, NestedKey.depthAll (xs.map κ) ≤ 7
  | [] => Nat.zero_le _
  | x :: xs => by
    rw [List.map_cons, NestedKey.depthAll]
    have := h x
    have := kdepths h xs
    omega
theorem depths_le {φ : α → D} {n : Nat} (h : ∀ x, (φ x).depth ≤ n) : ∀ xs : List α, PyData.depthAll (xs.map φ) ≤ n
  | [] => Nat.zero_le _
  | x :: xs => by
    have := h x
    have := depths_le h xs
    show max (φ x).depth (PyData.depthAll (xs.map φ)) ≤ n
    omega
theorem KeyF.tup (F : KeyF φ κ) (h1 : ∀ x, (κ x).depth ≤ 7) (h2 : ∀ x, (φ x).depth ≤ 10) : KeyF (fun xs : List α => PyData.tuple (xs.map φ)) (fun xs => NestedKey.tup (xs.map κ)) where
  key := fun xs => by
    rw [keyD, F.kds]; rfl
  tk := fun xs => by
    show (match keyDs (xs.map φ) with
      | some ks => decide (NestedKey.depthAll ks ≤ 7)
      | none => false) = true
    rw [F.kds]
    exact decide_eq_true (kdepths h1 xs)
  nb := fun xs => F.noBs xs
  inj := fun xs ys h => by
    injection h with h
    exact (List.map_inj_right (fun a b e => F.inj a b e)).mp h
  dp := fun xs => by
    rw [depth_tup]
    have := depths_le h2 xs
    omega
/-! ### things put together by what they have -/
theorem lookA_mem {β : Type} {x : α} {y : β} : ∀ {gs : List (α × β)}, lookA x gs = some y → (x, y) ∈ gs
  | [], h => by cases h
  | g :: gs, h => by
    unfold lookA at h
    by_cases e : g.1 = x
    · rw [if_pos e] at h
      cases h
      rw [← e]
      exact List.mem_cons_self
    · rw [if_neg e] at h
      exact List.mem_cons_of_mem _ (lookA_mem h)
theorem lookA_none {β : Type} {x : α} : ∀ {gs : List (α × β)}, lookA x gs = none → ∀ g ∈ gs, g.1 ≠ x
  | [], _ => fun _ h => by cases h
  | g :: gs, h => by
    unfold lookA at h
    by_cases e : g.1 = x
    · rw [if_pos e] at h; cases h
    · rw [if_neg e] at h
      intro g' hg'
      rcases List.mem_cons.mp hg' with rfl | hg'
      · exact e
      · exact lookA_none h g' hg'
def addG {β : Type} (E : β → α) (gs : List (α × List β)) (f : β) : List (α × List β) := putA (E f) ((lookA (E f) gs).getD [] ++ [f]) gs
structure GInv {β : Type} (E : β → α) (Fs : List β) (gs : List (α × List β)) : Prop where
  nd : gs.Pairwise fun g g' => g.1 ≠ g'.1
  fl : ∀ g ∈ gs, g.2 = Fs.filter (fun f => decide (E f = g.1)) ∧ g.2 ≠ []
  al : ∀ f ∈ Fs, ∃ g ∈ gs, g.1 = E f
  len : gs.length ≤ Fs.length
theorem GInv.step {β : Type} {E : β → α} {Fs : List β} {gs : List (α × List β)} (I : GInv E Fs gs) (f : β) : GInv E (Fs ++ [f]) (addG E gs f) := by
  unfold addG putA
  cases h : lookA (E f) gs with
  | none =>
    have hn := lookA_none h
    have ha : gs.any (fun g => decide (g.1 = E f)) = false := by
      rw [List.any_eq_false]
      intro g hg
      simpa using hn g hg
    rw [ha, if_neg Bool.false_ne_true]
    show GInv E (Fs ++ [f]) (gs ++ [(E f, [] ++ [f])])
    rw [List.nil_append]
    refine ⟨?_, fun g hg => ?_, fun f' hf' => ?_, by simp; exact I.len⟩
    · rw [List.pairwise_append]
      exact ⟨I.nd, by simp, fun g hg g' hg' => by rw [List.mem_singleton.mp hg']; exact hn g hg⟩
    · rcases List.mem_append.mp hg with hg | hg
      · obtain ⟨a, b⟩ := I.fl g hg
        refine ⟨?_, b⟩
        rw [List.filter_append, ← a]
        have : ¬ (E f = g.1) := fun e => hn g hg e.symm
        simp [this]
      · rw [List.mem_singleton.mp hg]
        refine ⟨?_, by simp⟩
        rw [List.filter_append]
        have : Fs.filter (fun f' => decide (E f' = E f)) = [] := by
          rw [List.filter_eq_nil_iff]
          intro f' hf' e
          obtain ⟨g, hg, q⟩ := I.al f' hf'
          exact hn g hg (q.trans (by simpa using e))
        show [f] = Fs.filter (fun f' => decide (E f' = E f)) ++ _
        rw [this]
        simp
    · rcases List.mem_append.mp hf' with hf' | hf'
      · obtain ⟨g, hg, q⟩ := I.al f' hf'
        exact ⟨g, List.mem_append_left _ hg, q⟩
      · rw [List.mem_singleton.mp hf']
        exact ⟨_, List.mem_append_right _ (List.mem_singleton.mpr rfl), rfl⟩
  | some y =>
    have hm := lookA_mem h
    have ha : gs.any (fun g => decide (g.1 = E f)) = true := by
      rw [List.any_eq_true]
      exact ⟨_, hm, by simp⟩
    rw [ha, if_pos rfl]
    show GInv E (Fs ++ [f]) (gs.map fun g => if g.1 = E f then (g.1, y ++ [f]) else g)
    obtain ⟨y1, y2⟩ := I.fl _ hm
    have key : ∀ g : α × List β, (if g.1 = E f then (g.1, y ++ [f]) else g).1 = g.1 := fun g => by split <;> rfl
    refine ⟨?_, fun g hg => ?_, fun f' hf' => ?_, by simp; exact Nat.le_succ_of_le I.len⟩
    · refine List.pairwise_map.mpr (I.nd.imp fun {g g'} hne => ?_)
      show (if g.1 = E f then (g.1, y ++ [f]) else g).1 ≠ (if g'.1 = E f then (g'.1, y ++ [f]) else g').1
      rw [key, key]
      exact hne
    · obtain ⟨g0, hg0, rfl⟩ := List.mem_map.mp hg
      obtain ⟨a, b⟩ := I.fl g0 hg0
      show (if g0.1 = E f then (g0.1, y ++ [f]) else g0).2 = _ ∧ (if g0.1 = E f then (g0.1, y ++ [f]) else g0).2 ≠ []
      rw [key g0, List.filter_append]
      by_cases e : g0.1 = E f
      · rw [if_pos e, e]
        refine ⟨?_, by simp⟩
        show y ++ [f] = _
        rw [← y1]
        simp
      · rw [if_neg e]
        refine ⟨?_, b⟩
        rw [← a]
        have : ¬ (E f = g0.1) := fun q => e q.symm
        simp [this]
    · rcases List.mem_append.mp hf' with hf' | hf'
      · obtain ⟨g, hg, q⟩ := I.al f' hf'
        exact ⟨_, List.mem_map_of_mem hg, (key g).trans q⟩
      · rw [List.mem_singleton.mp hf']
        exact ⟨_, List.mem_map_of_mem hm, key _⟩
theorem GInv.mem {β : Type} {E : β → α} {Fs : List β} {gs : List (α × List β)} (I : GInv E Fs gs) (v : List β) : v ∈ gs.map (·.2) ↔ v ∈ (Fs.map E).map fun row => Fs.filter fun f => decide (E f = row) := by
  constructor
  · intro hv
    obtain ⟨g, hg, rfl⟩ := List.mem_map.mp hv
    obtain ⟨a, b⟩ := I.fl g hg
    obtain ⟨f, hf⟩ := List.exists_mem_of_ne_nil _ b
    rw [a] at hf
    obtain ⟨f1, f2⟩ := List.mem_filter.mp hf
    rw [List.mem_map]
    refine ⟨E f, List.mem_map_of_mem f1, ?_⟩
    have f2 : E f = g.1 := by simpa using f2
    rw [f2]; exact a.symm
  · intro hv
    obtain ⟨row, hr, rfl⟩ := List.mem_map.mp hv
    obtain ⟨f, hf, rfl⟩ := List.mem_map.mp hr
    obtain ⟨g, hg, q⟩ := I.al f hf
    rw [List.mem_map]
    exact ⟨g, hg, by rw [(I.fl g hg).1, q]⟩
theorem GInv.vnd {β : Type} {E : β → α} {Fs : List β} {gs : List (α × List β)} (I : GInv E Fs gs) : (gs.map (·.2)).Nodup := by
  refine List.pairwise_map.mpr (I.nd.imp_of_mem fun {g g'} hg hg' hne e => hne ?_)
  obtain ⟨a, b⟩ := I.fl g hg
  obtain ⟨a', b'⟩ := I.fl g' hg'
  obtain ⟨f, hf⟩ := List.exists_mem_of_ne_nil _ b
  have h2 := hf
  rw [e] at h2
  rw [a] at hf
  rw [a'] at h2
  have q1 : E f = g.1 := by simpa using (List.mem_filter.mp hf).2
  have q2 : E f = g'.1 := by simpa using (List.mem_filter.mp h2).2
  exact q1.symm.trans q2
theorem GInv.nil {β : Type} (E : β → α) : GInv E [] [] := ⟨.nil, fun _ h => (by cases h), fun _ h => (by cases h), Nat.le_refl _⟩
end
end PQ

namespace PQ
open PySem PySem.Spec PyProof.Rows L2
open PySem.W (alike alikeAll dataLt dataLe)
/-! ### ends and faults as keys -/
def En.k : En → NestedKey
  | .out c => .tup [.text "out", .num c]
  | .stop r c => .tup [.text "stop", .num r, .num c]
  | .left r => .tup [.text "left", .num r]
  | .right r => .tup [.text "right", .num r]
def Fl.k : Fl → NestedKey
  | .bent p => .tup [.text "bent", .num p.1, .num p.2]
  | .stuck p => .tup [.text "stuck", .num p.1, .num p.2]
theorem t_ol : (Str.ofString "out" : Str) ≠ Str.ofString "left" := by decide +kernel
theorem t_or : (Str.ofString "out" : Str) ≠ Str.ofString "right" := by decide +kernel
theorem t_lr : (Str.ofString "left" : Str) ≠ Str.ofString "right" := by decide +kernel
theorem t_bs : (Str.ofString "bent" : Str) ≠ Str.ofString "stuck" := by decide +kernel
theorem EnF : KeyF En.d En.k where
  key := fun x => by cases x <;> rfl
  tk := fun x => by cases x <;> rfl
  nb := fun x => by cases x <;> rfl
  inj := fun x y h => by
    cases x <;> cases y <;> simp only [En.k, NestedKey.tup.injEq, List.cons.injEq, NestedKey.text.injEq, NestedKey.num.injEq, and_true, reduceCtorEq, and_false, false_and] at h
    all_goals first
      | (obtain ⟨_, rfl, rfl⟩ := h; rfl)
      | (obtain ⟨_, rfl⟩ := h; rfl)
      | exact absurd h.1 t_ol
      | exact absurd h.1 t_or
      | exact absurd h.1 t_lr
      | exact absurd h.1.symm t_ol
      | exact absurd h.1.symm t_or
      | exact absurd h.1.symm t_lr
      | skip
  dp := fun x => by cases x <;> simp [En.d, PyData.depth, PyData.depthAll]
theorem FlF : KeyF Fl.d Fl.k where
  key := fun x => by cases x <;> rfl
  tk := fun x => by cases x <;> rfl
  nb := fun x => by cases x <;> rfl
  inj := fun x y h => by
    cases x <;> cases y <;> simp only [Fl.k, NestedKey.tup.injEq, List.cons.injEq, NestedKey.text.injEq, NestedKey.num.injEq, and_true, reduceCtorEq, and_false, false_and] at h
    all_goals first
      | exact absurd h.1 t_bs
      | exact absurd h.1.symm t_bs
      | (rw [Prod.ext (h.2.1) h.2.2])
      | skip
  dp := fun x => by have := fl_depth x; omega
theorem EsF : KeyF (fun es : List En => PyData.tuple (es.map En.d)) (fun es => NestedKey.tup (es.map En.k)) :=
  EnF.tup (fun x => by cases x <;> exact Nat.le_of_ble_eq_true rfl) (fun x => by cases x <;> simp [En.d, PyData.depth, PyData.depthAll])
theorem FsF : KeyF (fun fs : List Fl => PyData.tuple (fs.map Fl.d)) (fun fs => NestedKey.tup (fs.map Fl.k)) :=
  FlF.tup (fun x => by cases x <;> exact Nat.le_of_ble_eq_true rfl) (fun x => by have := fl_depth x; omega)
theorem fl_alike (f g : Fl) : alike f.d g.d = true := by cases f <;> cases g <;> simp [Fl.d, alike, alikeAll]
theorem fs_alikes : ∀ fs gs : List Fl, alikeAll (fs.map Fl.d) (gs.map Fl.d) = true
  | [], _ => by simp [alikeAll]
  | _ :: _, [] => by simp [alikeAll]
  | f :: fs, g :: gs => by
    have := fs_alikes fs gs
    simp [alikeAll, fl_alike, this]
theorem fs_alike (fs gs : List Fl) : alike (PyData.tuple (fs.map Fl.d)) (PyData.tuple (gs.map Fl.d)) = true := by
  rw [alike]; exact fs_alikes fs gs
section
variable {b : Bd} {h w : Nat}
theorem f_check_column (B : BOk b h w) {c : Int} (hc : 0 ≤ c ∧ c < w) : F_check_column [bdD b, .int c] = .ok .none := by
  obtain ⟨row0, hl0, q0, q1⟩ := B.row0
  have g2 := f_is_whole c 0 (w - 1)
  rw [decide_eq_true (show (0 : Int) ≤ c ∧ c ≤ w - 1 by omega)] at g2
  show runD 2 S_check_column _ = _
  simp [runD, S_check_column, q0, q1, g2]
theorem f_check_columns (B : BOk b h w) {cs : List Int} (hc : ∀ c ∈ cs, 0 ≤ c ∧ c < (w : Int)) (hl : cs.length ≤ 200) : F_check_columns [bdD b, csD cs] = .ok .none := by
  obtain ⟨row0, hl0, q0, q1⟩ := B.row0
  have fc : fits cs.length = true := fits_k (by omega)
  have rl : dLenD [csD cs] = .ok (.int cs.length) := by show R.ok (PyData.int _) = _; rw [List.length_map]
  have rs : seqOf (csD cs) = .ok (cs.map .int) := rfl
  have rt : dIsi' "tuple" (csD cs) = .ok (.bool true) := rfl
  have hl1 : ¬ ((cs.length : Int) > 200) := by omega
  have hl2 : ¬ (200 < cs.length) := by omega
  have c1 : compR (cStep (aName 2) tTrue (eCall F_is_whole (eCons (eVar 2) (eCons (eInt 0) (eCons (e2 dSub (eA dLenD (eCons (e2 dIxD (eVar 0) (eInt 0)) (eNil))) (eInt 1)) (eNil))))) [.f (bdD b), .f (csD cs), .u]) (cs.map .int) = .ok (cs.map fun _ => .bool true) := by
    refine compR_all PyData.int (fun _ => .bool true) cs fun c ho => ?_
    have hc := hc c ho
    have g2 := f_is_whole c 0 (w - 1)
    rw [decide_eq_true (show (0 : Int) ≤ c ∧ c ≤ w - 1 by omega)] at g2
    simp [cStep, q0, q1, g2]
  show runD 3 S_check_columns _ = _
  generalize csD cs = RD at *
  simp [runD, S_check_columns, rt, rl, q0, q1, rs, fc, c1, all_true, hl1, hl2]
theorem f_drop_with (B : BOk b h w) {f : Fl} (hf : f ∈ flts b h w) {c : Int} (hc : 0 ≤ c ∧ c < w) : F_drop_with [bdD b, f.d, .int c] = .ok (.tuple [bdD (fw h w (some f) b c).1, (fw h w (some f) b c).2.d]) := by
  have g1 := f_check_board B
  have g2 := f_check_fault B hf
  have g3 := f_check_column B hc
  have g4 : F_fall_with [bdD b, f.d, .int c] = _ := f_fall_with B (some f) hc
  generalize f.d = FD at *
  show runD 3 S_drop_with _ = _
  simp [runD, S_drop_with, g1, g2, g3, g4]
theorem f_ends_with (B : BOk b h w) {f : Fl} (hf : f ∈ flts b h w) {cs : List Int} (hc : ∀ c ∈ cs, 0 ≤ c ∧ c < (w : Int)) (hl : cs.length ≤ 200) : F_ends_with [bdD b, f.d, csD cs] = .ok (esD (endsW h w (some f) cs b)) := by
  have g1 := f_check_board B
  have g2 := f_check_fault B hf
  have g3 := f_check_columns B hc hl
  have g4 : F_ends_in [bdD b, f.d, csD cs] = _ := f_ends_in B (some f) hc hl
  generalize f.d = FD at *
  generalize csD cs = CD at *
  show runD 3 S_ends_with _ = _
  simp [runD, S_ends_with, g1, g2, g3, g4]
theorem f_shows (B : BOk b h w) {f : Fl} (hf : f ∈ flts b h w) {cs : List Int} (hc : ∀ c ∈ cs, 0 ≤ c ∧ c < (w : Int)) (hl : cs.length ≤ 200) : F_shows [bdD b, f.d, csD cs] = .ok (.bool (!decide (endsW h w (some f) cs b = endsW h w none cs b))) := by
  have g1 := f_check_board B
  have g2 := f_check_fault B hf
  have g3 := f_check_columns B hc hl
  have g4 : F_ends_in [bdD b, f.d, csD cs] = _ := f_ends_in B (some f) hc hl
  have g5 : F_ends_in [bdD b, .none, csD cs] = _ := f_ends_in B none hc hl
  have g6 : dNe (esD (endsW h w (some f) cs b)) (esD (endsW h w none cs b)) = _ := EsF.dNe (endsW h w (some f) cs b) (endsW h w none cs b)
  generalize f.d = FD at *
  generalize csD cs = CD at *
  generalize (!decide (endsW h w (some f) cs b = endsW h w none cs b)) = BB at *
  generalize esD (endsW h w (some f) cs b) = E1 at *
  generalize esD (endsW h w none cs b) = E2 at *
  show runD 3 S_shows _ = _
  simp [runD, S_shows, g1, g2, g3, g4, g5, g6]
def hid (b : Bd) (h w : Nat) (cs : List Int) : List Fl := (flts b h w).filter fun f => decide (endsW h w (some f) cs b = endsW h w none cs b)
theorem f_hidden (B : BOk b h w) {cs : List Int} (hc : ∀ c ∈ cs, 0 ≤ c ∧ c < (w : Int)) (hl : cs.length ≤ 200) : F_hidden [bdD b, csD cs] = .ok (.tuple (fsD (hid b h w cs))) := by
  have g1 := f_check_board B
  have g3 := f_check_columns B hc hl
  have g5 : F_ends_in [bdD b, .none, csD cs] = _ := f_ends_in B none hc hl
  have g6 := f_faults_in B
  have hfl := flts_len B
  have c1 : compR (cStep (aName 3) (tV (e2 dEq (eCall F_ends_in (eCons (eVar 0) (eCons (eVar 3) (eCons (eVar 1) (eNil))))) (eVar 2))) (eVar 3) [.f (bdD b), .f (csD cs), .f (esD (endsW h w none cs b)), .u]) (fsD (flts b h w)) = .ok (fsD (hid b h w cs)) := by
    unfold fsD hid
    refine compR_map _ _ _ _ fun f _ => ?_
    have q1 : F_ends_in [bdD b, f.d, csD cs] = _ := f_ends_in B (some f) hc hl
    have q2 : dEq (esD (endsW h w (some f) cs b)) (esD (endsW h w none cs b)) = _ := EsF.dEq (endsW h w (some f) cs b) (endsW h w none cs b)
    by_cases q : endsW h w (some f) cs b = endsW h w none cs b
    · rw [decide_eq_true q] at q2 ⊢
      generalize f.d = FD at *
      generalize csD cs = CD at *
      generalize esD (endsW h w (some f) cs b) = E1 at *
      generalize esD (endsW h w none cs b) = E2 at *
      simp [cStep, q1, q2]
    · rw [decide_eq_false q] at q2 ⊢
      generalize f.d = FD at *
      generalize csD cs = CD at *
      generalize esD (endsW h w (some f) cs b) = E1 at *
      generalize esD (endsW h w none cs b) = E2 at *
      simp [cStep, q1, q2]
  have hf : fits (fsD (flts b h w)).length = true := fits_k (by unfold fsD; rw [List.length_map]; omega)
  have hf2 : fits (fsD (hid b h w cs)).length = true := fits_k (by
    unfold fsD hid
    rw [List.length_map]
    exact Nat.le_trans (List.length_filter_le _ _) (by omega))
  generalize fsD (hid b h w cs) = HD at *
  generalize fsD (flts b h w) = X at *
  generalize esD (endsW h w none cs b) = E2 at *
  generalize csD cs = CD at *
  have g7 : F_hidden_in [bdD b, CD] = .ok (.list HD) := by
    show runD 4 S_hidden_in _ = _
    simp [runD, S_hidden_in, g5, g6, hf, c1]
  show runD 2 S_hidden _ = _
  simp [runD, S_hidden, g1, g3, g7, dTuple, hf2]
end
end PQ

namespace PQ
open PySem PySem.Spec PyProof.Rows L2
open PySem.W (alike alikeAll dataLt dataLe)
abbrev flD (fs : List Fl) : D := .tuple (fs.map Fl.d)
theorem noLst_fl (f : Fl) : noLst f.d = true := by cases f <;> rfl
theorem noLst_fs : ∀ fs : List Fl, noLsts (fs.map Fl.d) = true
  | [] => rfl
  | f :: fs => by
    show (noLst f.d && noLsts (fs.map Fl.d)) = true
    rw [noLst_fl, noLst_fs fs]; rfl
section
variable {b : Bd} {h w : Nat}
/-- the faults with the same ends, together -/
abbrev EW (b : Bd) (h w : Nat) (cs : List Int) (f : Fl) : List En := endsW h w (some f) cs b
def gsA (b : Bd) (h w : Nat) (cs : List Int) : List (List En × List Fl) := (flts b h w).foldl (addG (EW b h w cs)) []
theorem gsA_inv (cs : List Int) : GInv (EW b h w cs) (flts b h w) (gsA b h w cs) := by
  have key : ∀ (fs Fs0 : List Fl) (gs : List (List En × List Fl)), GInv (EW b h w cs) Fs0 gs → GInv (EW b h w cs) (Fs0 ++ fs) (fs.foldl (addG (EW b h w cs)) gs) := by
    intro fs
    induction fs with
    | nil => intro Fs0 gs I; rw [List.append_nil]; exact I
    | cons f fs ih =>
      intro Fs0 gs I
      have := ih (Fs0 ++ [f]) _ (I.step f)
      rwa [List.append_assoc] at this
  exact key (flts b h w) [] [] (GInv.nil _)
abbrev dD (gs : List (List En × List Fl)) : List (D × D) := kvD (fun es : List En => PyData.tuple (es.map En.d)) flD gs
theorem alk_step (B : BOk b h w) {cs : List Int} (hc : ∀ c ∈ cs, 0 ≤ c ∧ c < (w : Int)) (hl : cs.length ≤ 200) (f : Fl) (gs : List (List En × List Fl)) (hg : gs.length ≤ 1000) (ho : ((lookA (EW b h w cs f) gs).getD []).length ≤ 1000) :
    B_alike_1 [.f (bdD b), .f (csD cs), .o (.dict (dD gs)), .f f.d, .u] = .nx [.f (bdD b), .f (csD cs), .o (.dict (dD (addG (EW b h w cs) gs f))), .f f.d, .f (esD (EW b h w cs f))] := by
  have q1 : F_ends_in [bdD b, f.d, csD cs] = .ok (esD (EW b h w cs f)) := f_ends_in B (some f) hc hl
  have k1 : okK (dD gs) (esD (EW b h w cs f)) = true := EsF.okK flD gs (EW b h w cs f)
  have k2 : dFind (dD gs) (esD (EW b h w cs f)) = (lookA (EW b h w cs f) gs).map flD := EsF.find flD (EW b h w cs f) gs
  have k3 : dPutL (dD gs) (esD (EW b h w cs f)) (flD ((lookA (EW b h w cs f) gs).getD [] ++ [f])) = dD (addG (EW b h w cs) gs f) := EsF.put flD (EW b h w cs f) _ gs
  have k4 : ((lookA (EW b h w cs f) gs).map flD).getD (.tuple []) = .tuple (((lookA (EW b h w cs f) gs).getD []).map Fl.d) := by
    cases lookA (EW b h w cs f) gs <;> rfl
  have k5 : flD ((lookA (EW b h w cs f) gs).getD [] ++ [f]) = .tuple (((lookA (EW b h w cs f) gs).getD []).map Fl.d ++ [f.d]) := by
    show PyData.tuple _ = _
    rw [List.map_append]; rfl
  have k6 : noLst (.tuple (((lookA (EW b h w cs f) gs).getD []).map Fl.d ++ [f.d])) = true := by
    rw [← k5]; exact noLst_fs _
  rw [k5] at k3
  have f1 : fits ((((lookA (EW b h w cs f) gs).getD []).map Fl.d).length + 1) = true := fits_k (by rw [List.length_map]; omega)
  have f2 : fits ((dD gs).length + 1) = true := fits_k (by show (kvD _ _ gs).length + 1 ≤ _; unfold kvD; rw [List.length_map]; omega)
  generalize ((lookA (EW b h w cs f) gs).getD []).map Fl.d = OL at *
  generalize dD (addG (EW b h w cs) gs f) = DG2 at *
  generalize dD gs = DG at *
  generalize esD (EW b h w cs f) = EE at *
  generalize f.d = FD at *
  generalize csD cs = CD at *
  have g : dGetM (.dict DG) [EE, .tuple []] = .ok (.tuple OL) := by
    show guardR (okK DG EE) ((dFind DG EE).getD (.tuple [])) = _
    rw [k1, k2, k4]; rfl
  simp [B_alike_1, q1, g, k1, f1, f2, k3, k6, tyName, borR]
theorem alk_for (B : BOk b h w) {cs : List Int} (hc : ∀ c ∈ cs, 0 ≤ c ∧ c < (w : Int)) (hl : cs.length ≤ 200) : ∀ (fs Fs0 : List Fl) (gs : List (List En × List Fl)), GInv (EW b h w cs) Fs0 gs → Fs0.length + fs.length ≤ 1000 →
    forL (aName 3) B_alike_1 [3, 4] (fsD fs) [.f (bdD b), .f (csD cs), .o (.dict (dD gs)), .u, .u] = .nx [.f (bdD b), .f (csD cs), .o (.dict (dD (fs.foldl (addG (EW b h w cs)) gs))), .u, .u]
  | [], Fs0, gs, _, _ => rfl
  | f :: fs, Fs0, gs, I, hn => by
    rw [List.length_cons] at hn
    have ih := alk_for B hc hl fs (Fs0 ++ [f]) _ (I.step f) (by rw [List.length_append]; show Fs0.length + 1 + _ ≤ _; omega)
    have ho : ((lookA (EW b h w cs f) gs).getD []).length ≤ 1000 := by
      cases q : lookA (EW b h w cs f) gs with
      | none => show 0 ≤ 1000; omega
      | some y =>
        show y.length ≤ 1000
        have := (I.fl _ (lookA_mem q)).1
        have e : y = Fs0.filter fun f_1 => decide (EW b h w cs f_1 = EW b h w cs f) := this
        rw [e]
        exact Nat.le_trans (List.length_filter_le _ _) (by omega)
    have g := alk_step B hc hl f gs (by have := I.len; omega) ho
    show forL _ _ _ (f.d :: fsD fs) _ = _
    exact forL_next _ _ (by rfl) g (by rfl) ih
def alk (b : Bd) (h w : Nat) (cs : List Int) : List (List Fl) := (gsA b h w cs).map (·.2)
theorem lookA_of {α β : Type} [DecidableEq α] : ∀ {gs : List (α × β)}, gs.Pairwise (fun g g' => g.1 ≠ g'.1) → ∀ g ∈ gs, lookA g.1 gs = some g.2
  | [], _, g, h => by cases h
  | g0 :: gs, hp, g, h => by
    obtain ⟨p1, p2⟩ := List.pairwise_cons.mp hp
    unfold lookA
    rcases List.mem_cons.mp h with rfl | h
    · rw [if_pos rfl]
    · rw [if_neg (p1 g h)]
      exact lookA_of p2 g h
theorem f_alike (B : BOk b h w) {cs : List Int} (hc : ∀ c ∈ cs, 0 ≤ c ∧ c < (w : Int)) (hl : cs.length ≤ 200) : F_alike [bdD b, csD cs] = .ok (.tuple (sortL ((alk b h w cs).map flD))) := by
  have g1 := f_check_board B
  have g3 := f_check_columns B hc hl
  have g6 := f_faults_in B
  have hfl := flts_len B
  have I := gsA_inv (b := b) (h := h) (w := w) cs
  have lp := alk_for B hc hl (flts b h w) [] [] (GInv.nil _) (by show 0 + _ ≤ _; omega)
  have lp : forL (aName 3) B_alike_1 [3, 4] (fsD (flts b h w)) [.f (bdD b), .f (csD cs), .o (.dict []), .u, .u] = .nx [.f (bdD b), .f (csD cs), .o (.dict (dD (gsA b h w cs))), .u, .u] := lp
  have hlen : (gsA b h w cs).length ≤ 512 := Nat.le_trans I.len hfl
  have c1 : compR (cStep (aName 4) tTrue (e2 dIxD (eVar 2) (eVar 4)) [.f (bdD b), .f (csD cs), .f (.dict (dD (gsA b h w cs))), .u, .u]) (keysD (dD (gsA b h w cs))) = .ok ((alk b h w cs).map flD) := by
    have e : keysD (dD (gsA b h w cs)) = (gsA b h w cs).map fun g => PyData.tuple (g.1.map En.d) := by
      unfold keysD
      show (kvD _ _ _).map _ = _
      unfold kvD
      rw [List.map_map]; rfl
    rw [e]
    unfold alk
    rw [List.map_map]
    refine compR_all _ _ _ fun g hg => ?_
    have k1 : okK (dD (gsA b h w cs)) (.tuple (g.1.map En.d)) = true := EsF.okK flD _ g.1
    have k2 : dFind (dD (gsA b h w cs)) (.tuple (g.1.map En.d)) = _ := EsF.find flD g.1 (gsA b h w cs)
    rw [lookA_of I.nd g hg] at k2
    have k3 := x_ixDD k1 k2
    generalize dD (gsA b h w cs) = DG at *
    generalize csD cs = CD at *
    show cStep _ _ _ _ (.tuple (g.1.map En.d)) = .ok (some (flD g.2))
    simp [cStep, k3]
  have hs := FsF.sorted (vs := alk b h w cs) (by unfold alk; rw [List.length_map]; omega) (fun x _ y _ => fs_alike x y) (fun x hx => by
    obtain ⟨g, hg, rfl⟩ := List.mem_map.mp hx
    have := (I.fl g hg).2
    show tupNE (.tuple (g.2.map Fl.d)) = true
    cases q : g.2 with
    | nil => exact absurd q this
    | cons f fs => rfl)
  have hs : dSortedD [.list ((alk b h w cs).map flD)] = .ok (.list (sortL ((alk b h w cs).map flD))) := hs
  have hf : fits (fsD (flts b h w)).length = true := fits_k (by unfold fsD; rw [List.length_map]; omega)
  have hkl : (keysD (dD (gsA b h w cs))).length = (gsA b h w cs).length := by
    unfold keysD
    show ((kvD _ _ _).map _).length = _
    unfold kvD
    rw [List.length_map, List.length_map]
  have hf2 : fits (keysD (dD (gsA b h w cs))).length = true := fits_k (by omega)
  have hsl : (sortL ((alk b h w cs).map flD)).length = (alk b h w cs).length := by
    unfold sortL
    rw [List.length_mergeSort, List.length_map]
  have hf3 : fits (sortL ((alk b h w cs).map flD)).length = true := fits_k (by rw [hsl]; unfold alk; rw [List.length_map]; omega)
  have hf4 : fits ((alk b h w cs).map flD).length = true := fits_k (by unfold alk; rw [List.length_map, List.length_map]; omega)
  have fz : ∀ (x y z : Sl) (d : D), frz 2 [x, y, .o d, z, .u] = [x, y, .f d, z, .u] := fun x y z d => by rw [frz_o (d := d) (by rfl)]; rfl
  generalize dD (gsA b h w cs) = DG at *
  generalize sortL ((alk b h w cs).map flD) = SL at *
  generalize (alk b h w cs).map flD = AL at *
  generalize fsD (flts b h w) = X at *
  generalize csD cs = CD at *
  show runD 5 S_alike _ = _
  simp only [runD, S_alike, x_sCons]
  simp [g1, g3, g6, lp, fz, hf, c1, hf2, hf4, hs, dTuple, hf3]
end
end PQ

/-! the laws' drawn board of up to six by six signs; draws -/
namespace PQ
open PySem PySem.Spec PyProof.Rows L2
theorem draws_ints {ds : List D} (h : ∀ d ∈ ds, isDraw d) : ∃ ns : List Int, ds = ns.map .int ∧ ∀ n ∈ ns, 0 ≤ n ∧ n < 65521 := by
  induction ds with
  | nil => exact ⟨[], rfl, fun _ h => nomatch h⟩
  | cons d ds ih =>
    obtain ⟨ns, e, hn⟩ := ih fun x hx => h x (List.mem_cons_of_mem _ hx)
    obtain ⟨n, rfl, h1, h2⟩ := h d List.mem_cons_self
    exact ⟨n :: ns, by rw [e]; rfl, fun m hm => by rcases List.mem_cons.mp hm with rfl | hm; exact ⟨h1, h2⟩; exact hn m hm⟩
theorem dr_at {ns : List Int} {k : Nat} (h : k < ns.length) : atI (ns.map PyData.int) (k : Int) = some (.int (ns.getD k 0)) :=
  atI_nat (by rw [List.getElem?_map, List.getElem?_eq_getElem h, List.getD_eq_getElem?_getD, List.getElem?_eq_getElem h]; rfl)
def cellN (ns : List Int) (sg : List Nat) (r c : Nat) : Nat := sg.getD ((ns.getD (2 + (7 * r + c) % 24) 0 / (1 + (r : Int) % 3)) % (sg.length : Int)).toNat 0
def brd (ns : List Int) (w h : Nat) (sg : List Nat) : Bd := (List.range h).map fun r => (List.range w).map fun c => cellN ns sg r c
section
variable {ns : List Int} {sg : List Nat}
theorem cell_ix (hg : 0 < sg.length) (r c : Nat) : ∃ s, sg[((ns.getD (2 + (7 * r + c) % 24) 0 / (1 + (r : Int) % 3)) % (sg.length : Int)).toNat]? = some s ∧ cellN ns sg r c = s := by
  have h1 : ((ns.getD (2 + (7 * r + c) % 24) 0 / (1 + (r : Int) % 3)) % (sg.length : Int)).toNat < sg.length := by
    have a := Int.emod_nonneg (ns.getD (2 + (7 * r + c) % 24) 0 / (1 + (r : Int) % 3)) (show (sg.length : Int) ≠ 0 by omega)
    have b := Int.emod_lt_of_pos (ns.getD (2 + (7 * r + c) % 24) 0 / (1 + (r : Int) % 3)) (show (0 : Int) < sg.length by omega)
    omega
  refine ⟨_, List.getElem?_eq_getElem h1, ?_⟩
  unfold cellN
  rw [List.getD_eq_getElem?_getD, List.getElem?_eq_getElem h1]; rfl
theorem brd_ok {w h : Nat} (hg : 0 < sg.length) (hs : ∀ s ∈ sg, s ∈ sgns) (h1 : 1 ≤ h) (h2 : h ≤ 16) (w1 : 1 ≤ w) (w2 : w ≤ 16) : BOk (brd ns w h sg) h w := by
  refine ⟨⟨by unfold brd; simp, fun r hr => ?_⟩, h1, h2, w1, w2, fun r hr s hsr => ?_⟩
  · unfold brd at hr
    obtain ⟨k, _, rfl⟩ := List.mem_map.mp hr
    simp
  · unfold brd at hr
    obtain ⟨k, _, rfl⟩ := List.mem_map.mp hr
    obtain ⟨c, _, rfl⟩ := List.mem_map.mp hsr
    obtain ⟨s, e1, e2⟩ := cell_ix (ns := ns) hg k c
    rw [e2]
    exact hs s (List.mem_of_getElem? e1)
theorem f_law_board (hl : 26 ≤ ns.length) (hg : 0 < sg.length) (hg2 : sg.length ≤ 16) (hs : ∀ s ∈ sg, s ∈ sgns) : ∃ b h w, BOk b h w ∧ h ≤ 6 ∧ w ≤ 6 ∧ F__law_board [.list (ns.map .int), .str (rowT sg)] = .ok (bdD b) := by
  have a0 : atI (ns.map PyData.int) 0 = some (.int (ns.getD 0 0)) := dr_at (ns := ns) (k := 0) (by omega)
  have a1 : atI (ns.map PyData.int) 1 = some (.int (ns.getD 1 0)) := dr_at (ns := ns) (k := 1) (by omega)
  obtain ⟨w, ew, w1, w2⟩ : ∃ w : Nat, 1 + ns.getD 0 0 % 6 = (w : Int) ∧ 1 ≤ w ∧ w ≤ 6 := ⟨(1 + ns.getD 0 0 % 6).toNat, by omega, by omega, by omega⟩
  obtain ⟨h, eh, h1, h2⟩ : ∃ h : Nat, 1 + ns.getD 1 0 % 6 = (h : Int) ∧ 1 ≤ h ∧ h ≤ 6 := ⟨(1 + ns.getD 1 0 % 6).toNat, by omega, by omega, by omega⟩
  generalize ns.getD 0 0 = d0 at a0 ew
  generalize ns.getD 1 0 = d1 at a1 eh
  have fw : fits w = true := fits_k (by omega)
  have fh : fits h = true := fits_k (by omega)
  have bw : big62 (w : Int) = true := big_nat (by omega)
  have bh : big62 (h : Int) = true := big_nat (by omega)
  refine ⟨brd ns w h sg, h, w, brd_ok hg hs h1 (by omega) w1 (by omega), h2, w2, ?_⟩
  have inner : ∀ r : Nat, r < h → compR (cStep (aName 5) tTrue (e2 dIxD (eVar 1) (e2 dMod (e2 dFdiv (eA dInt (eCons (e2 dIxD (eVar 0) (e2 dAdd (eInt 2) (e2 dMod (e2 dAdd (e2 dMul (eInt 7) (eVar 4)) (eVar 5)) (eInt 24)))) (eNil))) (e2 dAdd (eInt 1) (e2 dMod (eVar 4) (eInt 3)))) (eA dLenD (eCons (eVar 1) (eNil))))) [.f (.list (ns.map .int)), .f (.str (rowT sg)), .f (.int w), .f (.int h), .f (.int r), .u]) ((List.range w).map fun (c : Nat) => PyData.int c) = .ok (((List.range w).map fun c => cellN ns sg r c).map sgS) := by
    intro r hr
    rw [List.map_map]
    refine compR_all (fun (c : Nat) => PyData.int c) (fun c => sgS (cellN ns sg r c)) _ fun c hc => ?_
    have hc : c < w := List.mem_range.mp hc
    have hi : 2 + (7 * r + c) % 24 < ns.length := by have := Nat.mod_lt (7 * r + c) (show 0 < 24 by omega); omega
    have ei : 2 + (7 * (r : Int) + c) % 24 = ((2 + (7 * r + c) % 24 : Nat) : Int) := by omega
    have e1 : atI (ns.map PyData.int) (2 + (7 * (r : Int) + c) % 24) = some (.int (ns.getD (2 + (7 * r + c) % 24) 0)) := by
      rw [ei]; exact dr_at hi
    have m1 : mulOk 7 r = true := by unfold mulOk; simp
    have d1 : divOk (1 + (r : Int) % 3) = true := by unfold divOk; rw [Bool.and_eq_true]; exact ⟨decide_eq_true (by omega), decide_eq_true (by omega)⟩
    have f1 : fits sg.length = true := fits16 hg2
    obtain ⟨s, s1, s2⟩ := cell_ix (ns := ns) hg r c
    have a1 := Int.emod_nonneg (ns.getD (2 + (7 * r + c) % 24) 0 / (1 + (r : Int) % 3)) (show (sg.length : Int) ≠ 0 by omega)
    have e2 : dIxD (.str (rowT sg)) (.int ((ns.getD (2 + (7 * r + c) % 24) 0 / (1 + (r : Int) % 3)) % (sg.length : Int))) = .ok (sgS s) := at_sign a1 hg2 rfl s1
    generalize ns.getD (2 + (7 * r + c) % 24) 0 = nn at *
    rw [s2]
    simp [cStep, m1, e1, d1, f1, hg, e2]
  have outer : compR (cStep (aName 4) tTrue (eM "str" dJoin (eStr "") (eCons (eComp (iRg1 (eVar 2)) (aName 5) (tTrue) (e2 dIxD (eVar 1) (e2 dMod (e2 dFdiv (eA dInt (eCons (e2 dIxD (eVar 0) (e2 dAdd (eInt 2) (e2 dMod (e2 dAdd (e2 dMul (eInt 7) (eVar 4)) (eVar 5)) (eInt 24)))) (eNil))) (e2 dAdd (eInt 1) (e2 dMod (eVar 4) (eInt 3)))) (eA dLenD (eCons (eVar 1) (eNil))))) [5]) (eNil))) [.f (.list (ns.map .int)), .f (.str (rowT sg)), .f (.int w), .f (.int h), .u, .u]) ((List.range h).map fun (c : Nat) => PyData.int c) = .ok ((List.range h).map fun r => .str (rowT ((List.range w).map fun c => cellN ns sg r c))) := by
    refine compR_all (fun (c : Nat) => PyData.int c) (fun r => .str (rowT ((List.range w).map fun c => cellN ns sg r c))) _ fun r hr => ?_
    have i := inner r (List.mem_range.mp hr)
    have j := dJoin_row (r := (List.range w).map fun c => cellN ns sg r c) (by simp; omega)
    generalize ((List.range w).map fun c => cellN ns sg r c) = rr at *
    simp only [cStep, x_aName, x_tTrue, x_eM, x_eStr, x_eCons, x_eComp, x_iRg1, x_eVar, x_eNil]
    simp [bw, rgD_nat, fw, i, j, tyName]
  have e : (List.range h).map (fun r => PyData.str (rowT ((List.range w).map fun c => cellN ns sg r c))) = (brd ns w h sg).map fun r => .str (rowT r) := by unfold brd; rw [List.map_map]; rfl
  rw [e] at outer
  have hbl : (brd ns w h sg).length = h := by unfold brd; simp
  show runD 6 S__law_board _ = _
  generalize brd ns w h sg = BB at *
  simp [runD, S__law_board, a0, a1, ew, eh, bh, rgD_nat, fh, outer, dTuple, hbl]
  rfl
end
end PQ

namespace PQ
open PySem PySem.Spec PyProof.Rows L2
open PySem.W (alike alikeAll dataLt dataLe)
def SL1 : ES := sSet 1 (mF (eCallS 0 F__law_draws (eCons (eInt 60) (eNil))))
def SL2 : ES := sSet 2 (mF (eCall F__law_board (eCons (eVar 1) (eCons (e2 dIxD (eLst (eCons (eStr ".\\/LR<>X#") (eCons (eStr "LR..X\\/") (eCons (eStr "<>\\.L#") (eCons (eStr ".\\/X") (eNil)))))) (e2 dMod (eA dInt (eCons (e2 dIxD (eVar 1) (eInt 26)) (eNil))) (eInt 4))) (eNil)))))
def SL3 : ES := sSet 3 (mF (eA dLenD (eCons (e2 dIxD (eVar 2) (eInt 0)) (eNil))))
def SL4 : ES := sSet 4 (mF (eComp (iRg1 (eInt 36)) (aName 12) (tTrue) (eTup (eCons (e2 dFdiv (eVar 12) (eInt 6)) (eCons (e2 dMod (eVar 12) (eInt 6)) (eNil)))) [12]))
def SL5 : ES := sSet 4 (mF (eComp (iSeq (eVar 4)) (aName 13) (tAndB (tV (e2 dLt (e2 dIxD (eVar 13) (eInt 0)) (eA dLenD (eCons (eVar 2) (eNil))))) (tV (e2 dLt (e2 dIxD (eVar 13) (eInt 1)) (eVar 3)))) (eVar 13) [13]))
def SL6 : ES := sSet 5 (mF (e2 dAdd (eComp (iSeq (eVar 4)) (aTup (aCons (aName 15) (aCons (aName 16) (aNil)))) (tV (e2 dInD (e2 dIxD (e2 dIxD (eVar 2) (eVar 15)) (eVar 16)) (eStr "\\/"))) (eTup (eCons (eStr "bent") (eCons (eVar 15) (eCons (eVar 16) (eNil))))) [15, 16]) (eComp (iSeq (eVar 4)) (aTup (aCons (aName 15) (aCons (aName 16) (aNil)))) (tV (e2 dInD (e2 dIxD (e2 dIxD (eVar 2) (eVar 15)) (eVar 16)) (eStr "LR"))) (eTup (eCons (eStr "stuck") (eCons (eVar 15) (eCons (eVar 16) (eNil))))) [15, 16])))
def SL7 : ES := sIf (tV (e2 dNe (eCall F_faults_of (eCons (eVar 2) (eNil))) (eA dTuple (eCons (eVar 5) (eNil))))) (sRet (eBool false)) (sNil)
def SL8 : ES := sFor (iRg1 (eInt 3)) (aName 6) (B_law_2) [0, 4, 6, 7, 8, 9, 10, 11, 12, 13, 14, 15, 16, 17, 18]
def SL9 : ES := sSet 7 (mF (eIte (tV (e2 dGt (eA dLenD (eCons (eVar 5) (eNil))) (eInt 0))) (e2 dIxD (eVar 5) (eInt 0)) (eNone)))
def SL10 : ES := sFor (iSeq (eTup (eCons (eNone) (eCons (eTup (eNil)) (eCons (eA dListD (eCons (eVar 2) (eNil))) (eCons (eTup (eCons (eStr "x") (eNil))) (eNil))))))) (aName 8) (B_law_3) [0, 1, 4, 5, 6, 8, 9, 10, 11, 12, 13, 14, 15, 16, 17, 18]
def SL11 : ES := sFor (iSeq (eTup (eCons (eNone) (eCons (eTup (eNil)) (eCons (eTup (eCons (eStr "bent") (eCons (eInt 0) (eNil)))) (eCons (eTup (eCons (eStr "bent") (eCons (eInt 9) (eCons (eInt 9) (eNil))))) (eCons (eTup (eCons (eStr "up") (eCons (eInt 0) (eCons (eInt 0) (eNil))))) (eCons (eLst (eCons (eStr "bent") (eCons (eInt 0) (eCons (eInt 0) (eNil))))) (eCons (eTup (eCons (eStr "stuck") (eCons (eBool true) (eCons (eInt 0) (eNil))))) (eCons (eInt 5) (eNil))))))))))) (aName 8) (B_law_4) [0, 1, 4, 5, 6, 8, 9, 10, 11, 12, 13, 14, 15, 16, 17, 18]
def SL12 : ES := sFor (iSeq (eTup (eCons (eNone) (eCons (eLst (eCons (eInt 0) (eNil))) (eCons (eTup (eCons (eVar 3) (eNil))) (eCons (eTup (eCons (e1 dNeg (eInt 1)) (eNil))) (eCons (eTup (eCons (eBool true) (eNil))) (eCons (e2 dMulT (eTup (eCons (eInt 0) (eNil))) (eInt 201)) (eNil))))))))) (aName 8) (B_law_5) [0, 1, 4, 5, 6, 8, 9, 10, 11, 12, 13, 14, 15, 16, 17, 18]
def SL13 : ES := sIf (tAndB (tV (e1 dNotN (eVar 7))) (tV (e2 dNe (eComp (iSeq (eTup (eCons (e1 dNeg (eInt 1)) (eCons (eVar 3) (eCons (eBool true) (eCons (eNone) (eNil))))))) (aName 8) (tTrue) (eCall F__law_error (eCons (eInt 5) (eCons (eVar 2) (eCons (eVar 7) (eCons (eVar 8) (eNil)))))) [8]) (e2 dMul (eLst (eCons (eStr "column") (eNil))) (eInt 4))))) (sRet (eBool false)) (sNil)
def SL14 : ES := sRet (eAnd (e2 dEq (eCall F_drop_with (eCons (eTup (eCons (eStr "L.") (eNil))) (eCons (eTup (eCons (eStr "stuck") (eCons (eInt 0) (eCons (eInt 0) (eNil))))) (eCons (eInt 0) (eNil))))) (eTup (eCons (eTup (eCons (eStr "L.") (eNil))) (eCons (eTup (eCons (eStr "left") (eCons (eInt 0) (eNil)))) (eNil))))) (eAnd (e2 dEq (eCall F_drop_with (eCons (eTup (eCons (eStr "/.") (eNil))) (eCons (eTup (eCons (eStr "bent") (eCons (eInt 0) (eCons (eInt 0) (eNil))))) (eCons (eInt 0) (eNil))))) (eTup (eCons (eTup (eCons (eStr "/.") (eNil))) (eCons (eTup (eCons (eStr "out") (eCons (eInt 1) (eNil)))) (eNil))))) (e2 dEq (eCall F_hidden (eCons (eTup (eCons (eStr ".L") (eNil))) (eCons (eTup (eCons (eInt 0) (eCons (eInt 0) (eNil)))) (eNil)))) (eTup (eCons (eTup (eCons (eStr "stuck") (eCons (eInt 0) (eCons (eInt 1) (eNil))))) (eNil))))))
theorem SL_eq : S_law = sCons SL1 (sCons SL2 (sCons SL3 (sCons SL4 (sCons SL5 (sCons SL6 (sCons SL7 (sCons SL8 (sCons SL9 (sCons SL10 (sCons SL11 (sCons SL12 (sCons SL13 SL14)))))))))))) := rfl
def LB1 : ES := sSet 9 (mF (eA dTuple (eCons (eComp (iRg1 (e2 dMod (eA dInt (eCons (e2 dIxD (eVar 1) (e2 dAdd (eInt 51) (eVar 6))) (eNil))) (eInt 9))) (aName 16) (tTrue) (e2 dMod (eA dInt (eCons (e2 dIxD (eVar 1) (e2 dAdd (e2 dAdd (eInt 27) (e2 dMul (eInt 8) (eVar 6))) (eVar 16))) (eNil))) (eVar 3)) [16]) (eNil))))
def LB2 : ES := sSet 10 (mF (eCall F__law_ends (eCons (eVar 2) (eCons (eNone) (eCons (eVar 9) (eNil))))))
def LB3 : ES := sSet 11 (mF (eComp (iSeq (eVar 5)) (aName 7) (tTrue) (eCall F__law_ends (eCons (eVar 2) (eCons (eVar 7) (eCons (eVar 9) (eNil))))) [7]))
def LB4 : ES := sIf (tOrB (tV (e2 dNe (eComp (iSeq (eVar 5)) (aName 7) (tTrue) (eCall F_ends_with (eCons (eVar 2) (eCons (eVar 7) (eCons (eVar 9) (eNil))))) [7]) (eVar 11))) (tV (e2 dNe (eComp (iSeq (eVar 5)) (aName 7) (tTrue) (eCall F_shows (eCons (eVar 2) (eCons (eVar 7) (eCons (eVar 9) (eNil))))) [7]) (eComp (iSeq (eVar 11)) (aName 15) (tTrue) (e2 dNe (eVar 15) (eVar 10)) [15])))) (sRet (eBool false)) (sNil)
def LB5 : ES := sIf (tV (e2 dNe (eCall F_hidden (eCons (eVar 2) (eCons (eVar 9) (eNil)))) (eA dTuple (eCons (eComp (iRg1 (eA dLenD (eCons (eVar 5) (eNil)))) (aName 16) (tV (e2 dEq (e2 dIxD (eVar 11) (eVar 16)) (eVar 10))) (e2 dIxD (eVar 5) (eVar 16)) [16]) (eNil))))) (sRet (eBool false)) (sNil)
def LB6 : ES := sIf (tV (e2 dNe (eCall F_alike (eCons (eVar 2) (eCons (eVar 9) (eNil)))) (eA dTuple (eCons (eSortSet (eComp (iSeq (eVar 11)) (aName 15) (tTrue) (eA dTuple (eCons (eComp (iRg1 (eA dLenD (eCons (eVar 5) (eNil)))) (aName 18) (tV (e2 dEq (e2 dIxD (eVar 11) (eVar 18)) (eVar 15))) (e2 dIxD (eVar 5) (eVar 18)) [18]) (eNil))) [15])) (eNil))))) (sRet (eBool false)) (sNil)
def LB7 : ES := sFor (iSeq (eCut (eVar 5) (pNone) (pSome (eInt 8)))) (aName 7) (B_law_1) [0, 4, 7, 8, 9, 10, 11, 12, 13, 14, 15, 16, 17, 18]
theorem LB_eq : B_law_2 = sCons LB1 (sCons LB2 (sCons LB3 (sCons LB4 (sCons LB5 (sCons LB6 LB7))))) := rfl
theorem l_s1 : Str.ofString ".\\/LR<>X#" = rowT sgns := by decide +kernel
theorem l_s2 : Str.ofString "LR..X\\/" = rowT [76, 82, 46, 46, 88, 92, 47] := by decide +kernel
theorem l_s3 : Str.ofString "<>\\.L#" = rowT [60, 62, 92, 46, 76, 35] := by decide +kernel
theorem l_s4 : Str.ofString ".\\/X" = rowT [46, 92, 47, 88] := by decide +kernel
theorem sgn_cases {ns : List Int} (hl : 26 ≤ ns.length) (d : Int) : ∃ S b h w, dIxD (.list [.str (Str.ofString ".\\/LR<>X#"), .str (Str.ofString "LR..X\\/"), .str (Str.ofString "<>\\.L#"), .str (Str.ofString ".\\/X")]) (.int (d % 4)) = .ok (.str S) ∧ BOk b h w ∧ h ≤ 6 ∧ w ≤ 6 ∧ F__law_board [.list (ns.map .int), .str S] = .ok (bdD b) := by
  have h1 := f_law_board (sg := sgns) hl (by decide) (by decide) (by decide)
  have h2 := f_law_board (sg := [76, 82, 46, 46, 88, 92, 47]) hl (by decide) (by decide) (by decide)
  have h3 := f_law_board (sg := [60, 62, 92, 46, 76, 35]) hl (by decide) (by decide) (by decide)
  have h4 := f_law_board (sg := [46, 92, 47, 88]) hl (by decide) (by decide) (by decide)
  rw [← l_s1] at h1
  rw [← l_s2] at h2
  rw [← l_s3] at h3
  rw [← l_s4] at h4
  rcases (by omega : d % 4 = 0 ∨ d % 4 = 1 ∨ d % 4 = 2 ∨ d % 4 = 3) with e | e | e | e <;> rw [e]
  · obtain ⟨b, h, w, q⟩ := h1
    exact ⟨_, b, h, w, by rfl, q⟩
  · obtain ⟨b, h, w, q⟩ := h2
    exact ⟨_, b, h, w, by rfl, q⟩
  · obtain ⟨b, h, w, q⟩ := h3
    exact ⟨_, b, h, w, by rfl, q⟩
  · obtain ⟨b, h, w, q⟩ := h4
    exact ⟨_, b, h, w, by rfl, q⟩
/-- all places of six by six -/
def q36 (n : Nat) : Pt := (((n / 6 : Nat) : Int), ((n % 6 : Nat) : Int))
theorem cells36 {h w : Nat} (h6 : h ≤ 6) (w6 : w ≤ 6) : ((List.range 36).map q36).filter (fun p => decide (p.1 < (h : Int)) && decide (p.2 < (w : Int))) = cells h w := by
  rcases (by omega : h = 0 ∨ h = 1 ∨ h = 2 ∨ h = 3 ∨ h = 4 ∨ h = 5 ∨ h = 6) with rfl | rfl | rfl | rfl | rfl | rfl | rfl <;>
  rcases (by omega : w = 0 ∨ w = 1 ∨ w = 2 ∨ w = 3 ∨ w = 4 ∨ w = 5 ∨ w = 6) with rfl | rfl | rfl | rfl | rfl | rfl | rfl <;> rfl
theorem l_sl2 : (Str.ofString "\\/").cps.toList = [92, 47] := by decide +kernel
section
variable {b : Bd} {h w : Nat} {DS : D} {a0 : Sl}
theorem s4 : SL4 [a0, .f DS, .f (bdD b), .f (.int w), .u, .u, .u, .u, .u, .u, .u, .u, .u, .u, .u, .u, .u, .u, .u] = .nx [a0, .f DS, .f (bdD b), .f (.int w), .f (.list (((List.range 36).map q36).map ptD)), .u, .u, .u, .u, .u, .u, .u, .u, .u, .u, .u, .u, .u, .u] := by
  have c : compR (cStep (aName 12) tTrue (eTup (eCons (e2 dFdiv (eVar 12) (eInt 6)) (eCons (e2 dMod (eVar 12) (eInt 6)) (eNil)))) [a0, .f DS, .f (bdD b), .f (.int w), .u, .u, .u, .u, .u, .u, .u, .u, .u, .u, .u, .u, .u, .u, .u]) (rgD 0 36) = .ok (((List.range 36).map q36).map ptD) := by
    rw [show (36 : Int) = ((36 : Nat) : Int) from rfl, rgD_nat, List.map_map]
    refine compR_all _ _ _ fun n _ => ?_
    have hd : divOk 6 = true := by rfl
    simp [cStep, hd, q36, ptD]
  have hb : big62 36 = true := by rfl
  have hf : fits (rgD 0 36).length = true := by rfl
  generalize ((List.range 36).map q36).map ptD = X at *
  simp [SL4, hb, hf, c]
theorem s5 (B : BOk b h w) (h6 : h ≤ 6) (w6 : w ≤ 6) : SL5 [a0, .f DS, .f (bdD b), .f (.int w), .f (.list (((List.range 36).map q36).map ptD)), .u, .u, .u, .u, .u, .u, .u, .u, .u, .u, .u, .u, .u, .u] = .nx [a0, .f DS, .f (bdD b), .f (.int w), .f (.list ((cells h w).map ptD)), .u, .u, .u, .u, .u, .u, .u, .u, .u, .u, .u, .u, .u, .u] := by
  have hl := B.len
  generalize hPL : PyData.list (((List.range 36).map q36).map ptD) = PL
  have c : compR (cStep (aName 13) (tAndB (tV (e2 dLt (e2 dIxD (eVar 13) (eInt 0)) (eA dLenD (eCons (eVar 2) (eNil))))) (tV (e2 dLt (e2 dIxD (eVar 13) (eInt 1)) (eVar 3)))) (eVar 13) [a0, .f DS, .f (bdD b), .f (.int w), .f PL, .u, .u, .u, .u, .u, .u, .u, .u, .u, .u, .u, .u, .u, .u]) (((List.range 36).map q36).map ptD) = .ok ((cells h w).map ptD) := by
    rw [← cells36 h6 w6]
    refine compR_map _ _ _ _ fun p _ => ?_
    by_cases q1 : p.1 < (h : Int) <;> by_cases q2 : p.2 < (w : Int) <;> simp [cStep, hl, q1, q2]
  have sq : seqOf PL = .ok (((List.range 36).map q36).map ptD) := by rw [← hPL]; rfl
  have hf : fits (((List.range 36).map q36).map ptD).length = true := by rfl
  generalize ((List.range 36).map q36).map ptD = X at *
  generalize (cells h w).map ptD = Y at *
  simp [SL5, sq, hf, c]
theorem sgP_swap (L L' : List Nat) (h : ∀ s, s ∈ L ↔ s ∈ L') (b : Bd) : sgP b L = sgP b L' := by
  funext p
  unfold sgP
  cases atZ b p with
  | none => rfl
  | some s =>
    show decide (s ∈ L) = decide (s ∈ L')
    congr 1
    exact propext (h s)
theorem s6 (B : BOk b h w) : SL6 [a0, .f DS, .f (bdD b), .f (.int w), .f (.list ((cells h w).map ptD)), .u, .u, .u, .u, .u, .u, .u, .u, .u, .u, .u, .u, .u, .u] = .nx [a0, .f DS, .f (bdD b), .f (.int w), .f (.list ((cells h w).map ptD)), .f (.list (fsD (flts b h w))), .u, .u, .u, .u, .u, .u, .u, .u, .u, .u, .u, .u, .u] := by
  generalize hPL : PyData.list ((cells h w).map ptD) = PL
  have sq : seqOf PL = .ok ((cells h w).map ptD) := by rw [← hPL]; rfl
  have hm : h * w ≤ 16 * 16 := Nat.mul_le_mul B.h2 B.w2
  have cl := cells_len h w
  have hf : fits ((cells h w).map ptD).length = true := fits_k (by rw [List.length_map]; omega)
  have sg : ∀ (L : List Nat) (S : Str), S.cps.toList = L → ∀ p ∈ cells h w, ∃ row s, dIxD (bdD b) (.int p.1) = .ok (.str (rowT row)) ∧ dIxD (.str (rowT row)) (.int p.2) = .ok (sgS s) ∧ dInD (sgS s) (.str S) = .ok (.bool (sgP b L p)) := by
    intro L S hL p hp
    have hp := mem_cells.mp hp
    obtain ⟨row, s, a1, a2, a3, a4⟩ := atZ_in B.sz hp
    refine ⟨row, s, at_row B hp a1, at_sign hp.2.2.1 B.w2 a2 a3, ?_⟩
    rw [x_inDS, hL]
    unfold sgP
    rw [a4]
  have c1 : compR (cStep (aTup (aCons (aName 15) (aCons (aName 16) (aNil)))) (tV (e2 dInD (e2 dIxD (e2 dIxD (eVar 2) (eVar 15)) (eVar 16)) (eStr "\\/"))) (eTup (eCons (eStr "bent") (eCons (eVar 15) (eCons (eVar 16) (eNil))))) [a0, .f DS, .f (bdD b), .f (.int w), .f PL, .u, .u, .u, .u, .u, .u, .u, .u, .u, .u, .u, .u, .u, .u]) ((cells h w).map ptD) = .ok (((bents b h w).map Fl.bent).map Fl.d) := by
    unfold bents
    rw [sgP_swap [47, 92] [92, 47] (fun s => by simp; omega) b, List.map_map]
    refine compR_map _ _ _ _ fun p hp => ?_
    obtain ⟨row, s, k1, k2, k3⟩ := sg [92, 47] _ l_sl2 p hp
    cases q : sgP b [92, 47] p with
    | true => rw [q] at k3; simp [-x_inDS, cStep, ptD, k1, k2, k3, Fl.d]
    | false => rw [q] at k3; simp [-x_inDS, cStep, ptD, k1, k2, k3]
  have c2 : compR (cStep (aTup (aCons (aName 15) (aCons (aName 16) (aNil)))) (tV (e2 dInD (e2 dIxD (e2 dIxD (eVar 2) (eVar 15)) (eVar 16)) (eStr "LR"))) (eTup (eCons (eStr "stuck") (eCons (eVar 15) (eCons (eVar 16) (eNil))))) [a0, .f DS, .f (bdD b), .f (.int w), .f PL, .u, .u, .u, .u, .u, .u, .u, .u, .u, .u, .u, .u, .u, .u]) ((cells h w).map ptD) = .ok (((stucks b h w).map Fl.stuck).map Fl.d) := by
    unfold stucks
    rw [List.map_map]
    refine compR_map _ _ _ _ fun p hp => ?_
    obtain ⟨row, s, k1, k2, k3⟩ := sg [76, 82] _ l_LR p hp
    cases q : sgP b [76, 82] p with
    | true => rw [q] at k3; simp [-x_inDS, cStep, ptD, k1, k2, k3, Fl.d]
    | false => rw [q] at k3; simp [-x_inDS, cStep, ptD, k1, k2, k3]
  have e : fsD (flts b h w) = ((bents b h w).map Fl.bent).map Fl.d ++ ((stucks b h w).map Fl.stuck).map Fl.d := by unfold fsD flts; rw [List.map_append]
  have n1 : (bents b h w).length ≤ 256 := by have := List.length_filter_le (sgP b [47, 92]) (cells h w); unfold bents; omega
  have n2 : (stucks b h w).length ≤ 256 := by have := List.length_filter_le (sgP b [76, 82]) (cells h w); unfold stucks; omega
  have f3 : fits ((((bents b h w).map Fl.bent).map Fl.d).length + (((stucks b h w).map Fl.stuck).map Fl.d).length) = true := fits_k (by simp; omega)
  rw [e]
  generalize (cells h w).map ptD = X1 at *
  generalize ((bents b h w).map Fl.bent).map Fl.d = Y1 at *
  generalize ((stucks b h w).map Fl.stuck).map Fl.d = Y2 at *
  simp [SL6, sq, hf, c1, c2, f3]
theorem s7 (B : BOk b h w) {a4 : Sl} : SL7 [a0, .f DS, .f (bdD b), .f (.int w), a4, .f (.list (fsD (flts b h w))), .u, .u, .u, .u, .u, .u, .u, .u, .u, .u, .u, .u, .u] = .nx [a0, .f DS, .f (bdD b), .f (.int w), a4, .f (.list (fsD (flts b h w))), .u, .u, .u, .u, .u, .u, .u, .u, .u, .u, .u, .u, .u] := by
  have g := f_faults_of B
  have hl := flts_len B
  have hf : fits (fsD (flts b h w)).length = true := fits_k (by unfold fsD; rw [List.length_map]; omega)
  have hn : dNe (.tuple (fsD (flts b h w))) (.tuple (fsD (flts b h w))) = .ok (.bool false) := by
    have := FlF.dNeT (flts b h w) (flts b h w)
    exact this.trans (by simp)
  generalize fsD (flts b h w) = X at *
  simp [SL7, g, dTuple, hf, hn]
end
end PQ

namespace PQ
open PySem PySem.Spec PyProof.Rows L2
open PySem.W (alike alikeAll dataLt dataLe)
section
variable {b : Bd} {h w : Nat} {ns : List Int}
theorem lb1 (B : BOk b h w) (hl : ns.length = 60) {t : Nat} (ht : t < 3) : ∃ cs : List Int, (∀ c ∈ cs, 0 ≤ c ∧ c < (w : Int)) ∧ cs.length ≤ 200 ∧
    ∀ (F : D), LB1 [.u, .f (.list (ns.map .int)), .f (bdD b), .f (.int w), .u, .f F, .f (.int t), .u, .u, .u, .u, .u, .u, .u, .u, .u, .u, .u, .u] = .nx [.u, .f (.list (ns.map .int)), .f (bdD b), .f (.int w), .u, .f F, .f (.int t), .u, .u, .f (csD cs), .u, .u, .u, .u, .u, .u, .u, .u, .u] := by
  have hw1 := B.w1
  have hw2 := B.w2
  have g1 : atI (ns.map PyData.int) (51 + (t : Int)) = some (.int (ns.getD (51 + t) 0)) := by
    have := dr_at (ns := ns) (k := 51 + t) (by omega)
    rwa [show ((51 + t : Nat) : Int) = 51 + (t : Int) by omega] at this
  generalize ns.getD (51 + t) 0 = d1 at g1
  obtain ⟨n, en, n9⟩ : ∃ n : Nat, d1 % 9 = (n : Int) ∧ n < 9 := ⟨(d1 % 9).toNat, by omega, by omega⟩
  refine ⟨(List.range n).map fun k => ns.getD (27 + 8 * t + k) 0 % (w : Int), fun c hc => ?_, by rw [List.length_map, List.length_range]; omega, fun F => ?_⟩
  · obtain ⟨k, _, rfl⟩ := List.mem_map.mp hc
    exact ⟨Int.emod_nonneg _ (by omega), Int.emod_lt_of_pos _ (by omega)⟩
  · have c : compR (cStep (aName 16) tTrue (e2 dMod (eA dInt (eCons (e2 dIxD (eVar 1) (e2 dAdd (e2 dAdd (eInt 27) (e2 dMul (eInt 8) (eVar 6))) (eVar 16))) (eNil))) (eVar 3)) [.u, .f (.list (ns.map .int)), .f (bdD b), .f (.int w), .u, .f F, .f (.int t), .u, .u, .u, .u, .u, .u, .u, .u, .u, .u, .u, .u]) (rgD 0 n) = .ok (((List.range n).map fun k => ns.getD (27 + 8 * t + k) 0 % (w : Int)).map .int) := by
      rw [rgD_nat, List.map_map]
      refine compR_all _ _ _ fun k hk => ?_
      have hk := List.mem_range.mp hk
      have g2 : atI (ns.map PyData.int) (27 + 8 * (t : Int) + (k : Int)) = some (.int (ns.getD (27 + 8 * t + k) 0)) := by
        have := dr_at (ns := ns) (k := 27 + 8 * t + k) (by omega)
        rwa [show ((27 + 8 * t + k : Nat) : Int) = 27 + 8 * (t : Int) + (k : Int) by omega] at this
      have hmo : mulOk 8 t = true := by unfold mulOk; simp
      have hdo : divOk (w : Int) = true := by unfold divOk; rw [decide_eq_true (by omega), decide_eq_true (by omega)]; rfl
      have hw0 : 0 < w := by omega
      simp only [Function.comp_apply]
      generalize ns.getD (27 + 8 * t + k) 0 = dv at *
      simp [cStep, hmo, g2, hdo, hw0]
    have hd9 : divOk 9 = true := by rfl
    have hb := big_nat (n := n) (by omega)
    have hf : fits (rgD 0 n).length = true := fits_k (by rw [rgD_len]; omega)
    unfold csD
    have hf2 : fits (((List.range n).map fun k => ns.getD (27 + 8 * t + k) 0 % (w : Int)).map PyData.int).length = true := fits_k (by simp; omega)
    generalize ((List.range n).map fun k => ns.getD (27 + 8 * t + k) 0 % (w : Int)).map PyData.int = CS at *
    simp [LB1, g1, hd9, en, hb, hf, c, hf2, dTuple]
/-- rows of ends as data -/
abbrev rwD (rs : List (List En)) : D := .list (rs.map esD)
variable {cs : List Int} {DS : D} {t : D}
theorem lb2 (B : BOk b h w) (hm : h * w ≤ 41) (hc : ∀ c ∈ cs, 0 ≤ c ∧ c < (w : Int)) (hl : cs.length ≤ 200) (F : D) : LB2 [.u, .f DS, .f (bdD b), .f (.int w), .u, .f F, .f t, .u, .u, .f (csD cs), .u, .u, .u, .u, .u, .u, .u, .u, .u] = .nx [.u, .f DS, .f (bdD b), .f (.int w), .u, .f F, .f t, .u, .u, .f (csD cs), .f (esD (endsW h w none cs b)), .u, .u, .u, .u, .u, .u, .u, .u] := by
  have g : F__law_ends [bdD b, .none, csD cs] = _ := f_law_ends B hm none hc hl
  generalize csD cs = CD at *
  simp [LB2, g]
theorem lb3 (B : BOk b h w) (hm : h * w ≤ 41) (hc : ∀ c ∈ cs, 0 ≤ c ∧ c < (w : Int)) (hl : cs.length ≤ 200) : LB3 [.u, .f DS, .f (bdD b), .f (.int w), .u, .f (.list (fsD (flts b h w))), .f t, .u, .u, .f (csD cs), .f (esD (endsW h w none cs b)), .u, .u, .u, .u, .u, .u, .u, .u] = .nx [.u, .f DS, .f (bdD b), .f (.int w), .u, .f (.list (fsD (flts b h w))), .f t, .u, .u, .f (csD cs), .f (esD (endsW h w none cs b)), .f (rwD ((flts b h w).map (EW b h w cs))), .u, .u, .u, .u, .u, .u, .u] := by
  have hfl := flts_len B
  generalize hE : esD (endsW h w none cs b) = EN
  have c : compR (cStep (aName 7) tTrue (eCall F__law_ends (eCons (eVar 2) (eCons (eVar 7) (eCons (eVar 9) (eNil))))) [.u, .f DS, .f (bdD b), .f (.int w), .u, .f (.list (fsD (flts b h w))), .f t, .u, .u, .f (csD cs), .f EN, .u, .u, .u, .u, .u, .u, .u, .u]) (fsD (flts b h w)) = .ok (((flts b h w).map (EW b h w cs)).map esD) := by
    generalize hX : PyData.list (fsD (flts b h w)) = FX
    unfold fsD
    rw [List.map_map]
    refine compR_all _ _ _ fun f _ => ?_
    have g : F__law_ends [bdD b, f.d, csD cs] = _ := f_law_ends B hm (some f) hc hl
    generalize f.d = FD at *
    generalize csD cs = CD at *
    simp [cStep, g]
  have hf : fits (fsD (flts b h w)).length = true := fits_k (by unfold fsD; rw [List.length_map]; omega)
  unfold rwD
  generalize ((flts b h w).map (EW b h w cs)).map esD = Y at *
  generalize fsD (flts b h w) = X at *
  generalize csD cs = CD at *
  simp [LB3, c, hf]
theorem bools_plain : ∀ bs : List Bool, PyData.plainAll (bs.map PyData.bool) = true
  | [] => rfl
  | _ :: bs => by
    show (true && PyData.plainAll (bs.map PyData.bool)) = true
    rw [bools_plain bs]; rfl
theorem bools_depth : ∀ bs : List Bool, PyData.depthAll (bs.map PyData.bool) ≤ 0
  | [] => Nat.le_refl _
  | x :: bs => by
    have := bools_depth bs
    show max (PyData.depth (.bool x)) (PyData.depthAll (bs.map PyData.bool)) ≤ 0
    have : PyData.depth (.bool x) = 0 := by unfold PyData.depth; rfl
    omega
theorem dNe_bools (bs : List Bool) : dNe (.list (bs.map .bool)) (.list (bs.map .bool)) = .ok (.bool false) :=
  dNe_self (bools_plain bs) (by rw [depth_lst]; have := bools_depth bs; omega)
theorem lb4 (B : BOk b h w) (hm : h * w ≤ 41) (hc : ∀ c ∈ cs, 0 ≤ c ∧ c < (w : Int)) (hl : cs.length ≤ 200) : LB4 [.u, .f DS, .f (bdD b), .f (.int w), .u, .f (.list (fsD (flts b h w))), .f t, .u, .u, .f (csD cs), .f (esD (endsW h w none cs b)), .f (rwD ((flts b h w).map (EW b h w cs))), .u, .u, .u, .u, .u, .u, .u] = .nx [.u, .f DS, .f (bdD b), .f (.int w), .u, .f (.list (fsD (flts b h w))), .f t, .u, .u, .f (csD cs), .f (esD (endsW h w none cs b)), .f (rwD ((flts b h w).map (EW b h w cs))), .u, .u, .u, .u, .u, .u, .u] := by
  have hfl := flts_len B
  generalize hRW : rwD ((flts b h w).map (EW b h w cs)) = RW
  have sq : seqOf RW = .ok (((flts b h w).map (EW b h w cs)).map esD) := by rw [← hRW]; rfl
  generalize hEN : esD (endsW h w none cs b) = EN
  have c1 : compR (cStep (aName 7) tTrue (eCall F_ends_with (eCons (eVar 2) (eCons (eVar 7) (eCons (eVar 9) (eNil))))) [.u, .f DS, .f (bdD b), .f (.int w), .u, .f (.list (fsD (flts b h w))), .f t, .u, .u, .f (csD cs), .f EN, .f RW, .u, .u, .u, .u, .u, .u, .u]) (fsD (flts b h w)) = .ok (((flts b h w).map (EW b h w cs)).map esD) := by
    generalize hX : PyData.list (fsD (flts b h w)) = FX
    unfold fsD
    rw [List.map_map]
    refine compR_all _ _ _ fun f hf => ?_
    have g := f_ends_with B hf hc hl
    generalize f.d = FD at *
    generalize csD cs = CD at *
    simp [cStep, g]
  have c2 : compR (cStep (aName 7) tTrue (eCall F_shows (eCons (eVar 2) (eCons (eVar 7) (eCons (eVar 9) (eNil))))) [.u, .f DS, .f (bdD b), .f (.int w), .u, .f (.list (fsD (flts b h w))), .f t, .u, .u, .f (csD cs), .f EN, .f RW, .u, .u, .u, .u, .u, .u, .u]) (fsD (flts b h w)) = .ok (((flts b h w).map fun f => !decide (EW b h w cs f = endsW h w none cs b)).map .bool) := by
    generalize hX : PyData.list (fsD (flts b h w)) = FX
    unfold fsD
    rw [List.map_map]
    refine compR_all _ _ _ fun f hf => ?_
    have g := f_shows B hf hc hl
    generalize f.d = FD at *
    generalize csD cs = CD at *
    simp [cStep, g]
  have c3 : compR (cStep (aName 15) tTrue (e2 dNe (eVar 15) (eVar 10)) [.u, .f DS, .f (bdD b), .f (.int w), .u, .f (.list (fsD (flts b h w))), .f t, .u, .u, .f (csD cs), .f EN, .f RW, .u, .u, .u, .u, .u, .u, .u]) (((flts b h w).map (EW b h w cs)).map esD) = .ok (((flts b h w).map fun f => !decide (EW b h w cs f = endsW h w none cs b)).map .bool) := by
    generalize hX : PyData.list (fsD (flts b h w)) = FX
    rw [List.map_map, List.map_map]
    refine compR_all _ _ _ fun f hf => ?_
    have g : dNe (esD (EW b h w cs f)) (esD (endsW h w none cs b)) = _ := EsF.dNe (EW b h w cs f) (endsW h w none cs b)
    rw [hEN] at g
    show cStep _ _ _ _ (esD (EW b h w cs f)) = .ok (some (.bool (!decide (EW b h w cs f = endsW h w none cs b))))
    generalize esD (EW b h w cs f) = E1 at *
    generalize (!decide (EW b h w cs f = endsW h w none cs b)) = BB at *
    simp [cStep, g]
  have n1 : dNe (.list (((flts b h w).map (EW b h w cs)).map esD)) RW = .ok (.bool false) := by
    rw [← hRW]
    have : dNe (.list (((flts b h w).map (EW b h w cs)).map esD)) (.list (((flts b h w).map (EW b h w cs)).map esD)) = _ := EsF.dNeL ((flts b h w).map (EW b h w cs)) ((flts b h w).map (EW b h w cs))
    exact this.trans (by simp)
  have n2 := dNe_bools ((flts b h w).map fun f => !decide (EW b h w cs f = endsW h w none cs b))
  have hf : fits (fsD (flts b h w)).length = true := fits_k (by unfold fsD; rw [List.length_map]; omega)
  have hf2 : fits (((flts b h w).map (EW b h w cs)).map esD).length = true := fits_k (by rw [List.length_map, List.length_map]; omega)
  generalize ((flts b h w).map fun f => !decide (EW b h w cs f = endsW h w none cs b)).map PyData.bool = Z at *
  generalize ((flts b h w).map (EW b h w cs)).map esD = Y at *
  generalize fsD (flts b h w) = X at *
  generalize csD cs = CD at *
  simp [LB4, c1, c2, c3, hf, hf2, sq, n1, n2]
end
end PQ

namespace PQ
open PySem PySem.Spec PyProof.Rows L2
open PySem.W (alike alikeAll dataLt dataLe)
instance : Inhabited Fl := ⟨.bent (0, 0)⟩
theorem idx_all {α β : Type} [Inhabited α] (F : List α) (g : α → β) : (List.range F.length).map (fun k => g (F.getD k default)) = F.map g := by
  apply List.ext_getElem?
  intro i
  rcases Nat.lt_or_ge i F.length with l | l
  · rw [List.getElem?_map, List.getElem?_range l, List.getElem?_map, List.getElem?_eq_getElem l, Option.map_some, Option.map_some, List.getD_eq_getElem?_getD, List.getElem?_eq_getElem l]; rfl
  · rw [List.getElem?_eq_none (by rw [List.length_map, List.length_range]; exact l), List.getElem?_eq_none (by rw [List.length_map]; exact l)]
theorem idx_filter {α β : Type} [Inhabited α] (F : List α) (p : α → Bool) (g : α → β) : ((List.range F.length).filter fun k => p (F.getD k default)).map (fun k => g (F.getD k default)) = (F.filter p).map g := by
  have h := idx_all F id
  have h : (List.range F.length).map (fun k => F.getD k default) = F := by simpa using h
  conv => rhs; rw [← h]
  rw [List.filter_map, List.map_map]
  rfl
section
variable {b : Bd} {h w : Nat} {ns : List Int} {cs : List Int} {DS : D} {t : D}
theorem at_fl (F : List Fl) {k : Nat} (hk : k < F.length) : dIxD (.list (fsD F)) (.int (k : Int)) = .ok (F.getD k default).d := by
  have : atI (fsD F) (k : Int) = some (F.getD k default).d := atI_nat (by
    unfold fsD
    rw [List.getElem?_map, List.getElem?_eq_getElem hk, List.getD_eq_getElem?_getD, List.getElem?_eq_getElem hk]; rfl)
  rw [x_ixDL, this]; rfl
theorem at_rw (F : List Fl) (E : Fl → List En) {k : Nat} (hk : k < F.length) : dIxD (rwD (F.map E)) (.int (k : Int)) = .ok (esD (E (F.getD k default))) := by
  have : atI ((F.map E).map esD) (k : Int) = some (esD (E (F.getD k default))) := atI_nat (by
    rw [List.getElem?_map, List.getElem?_map, List.getElem?_eq_getElem hk, List.getD_eq_getElem?_getD, List.getElem?_eq_getElem hk]; rfl)
  show dIxD (.list _) _ = _
  rw [x_ixDL, this]; rfl
theorem lb5 (B : BOk b h w) (hc : ∀ c ∈ cs, 0 ≤ c ∧ c < (w : Int)) (hl : cs.length ≤ 200) : LB5 [.u, .f DS, .f (bdD b), .f (.int w), .u, .f (.list (fsD (flts b h w))), .f t, .u, .u, .f (csD cs), .f (esD (endsW h w none cs b)), .f (rwD ((flts b h w).map (EW b h w cs))), .u, .u, .u, .u, .u, .u, .u] = .nx [.u, .f DS, .f (bdD b), .f (.int w), .u, .f (.list (fsD (flts b h w))), .f t, .u, .u, .f (csD cs), .f (esD (endsW h w none cs b)), .f (rwD ((flts b h w).map (EW b h w cs))), .u, .u, .u, .u, .u, .u, .u] := by
  have hfl := flts_len B
  have g := f_hidden B hc hl
  generalize hRW : rwD ((flts b h w).map (EW b h w cs)) = RW
  generalize hEN : esD (endsW h w none cs b) = EN
  generalize hFX : PyData.list (fsD (flts b h w)) = FX
  have ln : dLenD [FX] = .ok (.int ((flts b h w).length : Nat)) := by
    rw [← hFX]
    have : fits (fsD (flts b h w)).length = true := fits_k (by unfold fsD; rw [List.length_map]; omega)
    show dLen [.list (fsD (flts b h w))] = _
    simp only [x_dLenL, this, x_guard]
    unfold fsD
    rw [List.length_map]
  have c : compR (cStep (aName 16) (tV (e2 dEq (e2 dIxD (eVar 11) (eVar 16)) (eVar 10))) (e2 dIxD (eVar 5) (eVar 16)) [.u, .f DS, .f (bdD b), .f (.int w), .u, .f FX, .f t, .u, .u, .f (csD cs), .f EN, .f RW, .u, .u, .u, .u, .u, .u, .u]) (rgD 0 ((flts b h w).length : Nat)) = .ok (fsD (hid b h w cs)) := by
    unfold fsD hid
    rw [rgD_nat, ← idx_filter (flts b h w) (fun f => decide (EW b h w cs f = endsW h w none cs b)) Fl.d]
    refine compR_map _ _ _ _ fun k hk => ?_
    have hk := List.mem_range.mp hk
    have g1 := at_fl (flts b h w) hk
    have g2 := at_rw (flts b h w) (EW b h w cs) hk
    rw [hRW] at g2
    rw [hFX] at g1
    generalize (flts b h w).getD k default = f at *
    have g3 : dEq (esD (EW b h w cs f)) (esD (endsW h w none cs b)) = _ := EsF.dEq (EW b h w cs f) (endsW h w none cs b)
    rw [hEN] at g3
    by_cases q : EW b h w cs f = endsW h w none cs b
    · rw [decide_eq_true q] at g3 ⊢
      generalize esD (EW b h w cs f) = E1 at *
      generalize csD cs = CD at *
      simp [cStep, g1, g2, g3]
    · rw [decide_eq_false q] at g3 ⊢
      generalize esD (EW b h w cs f) = E1 at *
      generalize csD cs = CD at *
      simp [cStep, g1, g2, g3]
  have hn : dNe (.tuple (fsD (hid b h w cs))) (.tuple (fsD (hid b h w cs))) = .ok (.bool false) := (FlF.dNeT (hid b h w cs) (hid b h w cs)).trans (by simp)
  have hb := big_nat (n := (flts b h w).length) (by omega)
  have hf : fits (rgD 0 ((flts b h w).length : Nat)).length = true := fits_k (by rw [rgD_len]; omega)
  have hf2 : fits (fsD (hid b h w cs)).length = true := fits_k (by
    unfold fsD hid
    rw [List.length_map]
    exact Nat.le_trans (List.length_filter_le _ _) (by omega))
  generalize fsD (hid b h w cs) = HD at *
  generalize csD cs = CD at *
  simp [LB5, g, ln, hb, hf, c, hf2, dTuple, hn]
theorem lb6 (B : BOk b h w) (hc : ∀ c ∈ cs, 0 ≤ c ∧ c < (w : Int)) (hl : cs.length ≤ 200) : LB6 [.u, .f DS, .f (bdD b), .f (.int w), .u, .f (.list (fsD (flts b h w))), .f t, .u, .u, .f (csD cs), .f (esD (endsW h w none cs b)), .f (rwD ((flts b h w).map (EW b h w cs))), .u, .u, .u, .u, .u, .u, .u] = .nx [.u, .f DS, .f (bdD b), .f (.int w), .u, .f (.list (fsD (flts b h w))), .f t, .u, .u, .f (csD cs), .f (esD (endsW h w none cs b)), .f (rwD ((flts b h w).map (EW b h w cs))), .u, .u, .u, .u, .u, .u, .u] := by
  have hfl := flts_len B
  have g := f_alike B hc hl
  have I := gsA_inv (b := b) (h := h) (w := w) cs
  have hal : (alk b h w cs).length ≤ 512 := by
    unfold alk
    rw [List.length_map]
    exact Nat.le_trans I.len hfl
  generalize hEN : esD (endsW h w none cs b) = EN
  have sq : seqOf (rwD ((flts b h w).map (EW b h w cs))) = .ok (((flts b h w).map (EW b h w cs)).map esD) := rfl
  have at2 : ∀ k, k < (flts b h w).length → dIxD (rwD ((flts b h w).map (EW b h w cs))) (.int (k : Int)) = .ok (esD (EW b h w cs ((flts b h w).getD k default))) := fun k hk => at_rw _ _ hk
  have at1 : ∀ k, k < (flts b h w).length → dIxD (.list (fsD (flts b h w))) (.int (k : Int)) = .ok ((flts b h w).getD k default).d := fun k hk => at_fl _ hk
  have ln : dLenD [.list (fsD (flts b h w))] = .ok (.int ((flts b h w).length : Nat)) := by
    have : fits (fsD (flts b h w)).length = true := fits_k (by unfold fsD; rw [List.length_map]; omega)
    show dLen [.list (fsD (flts b h w))] = _
    simp only [x_dLenL, this, x_guard]
    unfold fsD
    rw [List.length_map]
  generalize hRW : rwD ((flts b h w).map (EW b h w cs)) = RW at sq at2 ⊢
  generalize hFX : PyData.list (fsD (flts b h w)) = FX at ln at1 ⊢
  have hb := big_nat (n := (flts b h w).length) (by omega)
  have hf : fits (rgD 0 ((flts b h w).length : Nat)).length = true := fits_k (by rw [rgD_len]; omega)
  have ci : ∀ row : List En, compR (cStep (aName 18) (tV (e2 dEq (e2 dIxD (eVar 11) (eVar 18)) (eVar 15))) (e2 dIxD (eVar 5) (eVar 18)) [.u, .f DS, .f (bdD b), .f (.int w), .u, .f FX, .f t, .u, .u, .f (csD cs), .f EN, .f RW, .u, .u, .u, .f (esD row), .u, .u, .u]) (rgD 0 ((flts b h w).length : Nat)) = .ok (((flts b h w).filter fun f => decide (EW b h w cs f = row)).map Fl.d) := by
    intro row
    rw [rgD_nat, ← idx_filter (flts b h w) (fun f => decide (EW b h w cs f = row)) Fl.d]
    refine compR_map _ _ _ _ fun k hk => ?_
    have hk := List.mem_range.mp hk
    have g1 := at1 k hk
    have g2 := at2 k hk
    generalize (flts b h w).getD k default = f at *
    have g3 : dEq (esD (EW b h w cs f)) (esD row) = _ := EsF.dEq (EW b h w cs f) row
    by_cases q : EW b h w cs f = row
    · rw [decide_eq_true q] at g3 ⊢
      generalize esD (EW b h w cs f) = E1 at *
      generalize esD row = E2 at *
      generalize csD cs = CD at *
      simp [cStep, g1, g2, g3]
    · rw [decide_eq_false q] at g3 ⊢
      generalize esD (EW b h w cs f) = E1 at *
      generalize esD row = E2 at *
      generalize csD cs = CD at *
      simp [cStep, g1, g2, g3]
  have co : compR (cStep (aName 15) tTrue (eA dTuple (eCons (eComp (iRg1 (eA dLenD (eCons (eVar 5) (eNil)))) (aName 18) (tV (e2 dEq (e2 dIxD (eVar 11) (eVar 18)) (eVar 15))) (e2 dIxD (eVar 5) (eVar 18)) [18]) (eNil))) [.u, .f DS, .f (bdD b), .f (.int w), .u, .f FX, .f t, .u, .u, .f (csD cs), .f EN, .f RW, .u, .u, .u, .u, .u, .u, .u]) (((flts b h w).map (EW b h w cs)).map esD) = .ok ((((flts b h w).map (EW b h w cs)).map fun row => (flts b h w).filter fun f => decide (EW b h w cs f = row)).map flD) := by
    rw [List.map_map (f := fun row => (flts b h w).filter fun f => decide (EW b h w cs f = row))]
    refine compR_all _ _ _ fun row _ => ?_
    have i := ci row
    have hf3 : fits (((flts b h w).filter fun f => decide (EW b h w cs f = row)).map Fl.d).length = true := fits_k (by
      rw [List.length_map]
      exact Nat.le_trans (List.length_filter_le _ _) (by omega))
    show cStep _ _ _ _ (esD row) = .ok (some (flD ((flts b h w).filter fun f => decide (EW b h w cs f = row))))
    unfold flD
    generalize ((flts b h w).filter fun f => decide (EW b h w cs f = row)).map Fl.d = Y at *
    generalize esD row = E2 at *
    generalize csD cs = CD at *
    simp [cStep, ln, hb, hf, i, hf3, dTuple]
  have hss := FsF.sortset (xs := ((flts b h w).map (EW b h w cs)).map fun row => (flts b h w).filter fun f => decide (EW b h w cs f = row)) (vs := alk b h w cs) (by rw [List.length_map, List.length_map]; omega) I.vnd I.mem (fun x _ y _ => fs_alike x y) (fun x hx => by
    obtain ⟨g, hg, q⟩ := List.mem_map.mp ((I.mem x).mpr hx)
    have := (I.fl g hg).2
    rw [q] at this
    show tupNE (.tuple (x.map Fl.d)) = true
    cases x with
    | nil => exact absurd rfl this
    | cons f fs => rfl)
  have hss : dSortSet (.list ((((flts b h w).map (EW b h w cs)).map fun row => (flts b h w).filter fun f => decide (EW b h w cs f = row)).map flD)) = .ok (.list (sortL ((alk b h w cs).map flD))) := hss
  have hsl : (sortL ((alk b h w cs).map flD)).length = (alk b h w cs).length := by
    unfold sortL
    rw [List.length_mergeSort, List.length_map]
  have hf5 : fits (sortL ((alk b h w cs).map flD)).length = true := fits_k (by rw [hsl]; omega)
  have hn : dNe (.tuple (sortL ((alk b h w cs).map flD))) (.tuple (sortL ((alk b h w cs).map flD))) = .ok (.bool false) := by
    obtain ⟨zs, hz⟩ : ∃ zs : List (List Fl), sortL ((alk b h w cs).map flD) = zs.map flD := of_map fun d hd => by
      have pm : (sortL ((alk b h w cs).map flD)).Perm ((alk b h w cs).map flD) := List.mergeSort_perm _ _
      obtain ⟨x, _, rfl⟩ := List.mem_map.mp (pm.mem_iff.mp hd)
      exact ⟨x, rfl⟩
    rw [hz]
    exact (FsF.dNeT zs zs).trans (by simp)
  have hf6 : fits (((flts b h w).map (EW b h w cs)).map esD).length = true := fits_k (by rw [List.length_map, List.length_map]; omega)
  generalize sortL ((alk b h w cs).map flD) = SL at *
  generalize (((flts b h w).map (EW b h w cs)).map fun row => (flts b h w).filter fun f => decide (EW b h w cs f = row)).map flD = XL at *
  generalize ((flts b h w).map (EW b h w cs)).map esD = Y at *
  generalize csD cs = CD at *
  simp [LB6, g, sq, co, hf6, hss, hf5, dTuple, hn]
end
end PQ

namespace PQ
open PySem PySem.Spec PyProof.Rows L2
open PySem.W (alike alikeAll dataLt dataLe)
def errT : List (List (Str × Bool) × ES) := [([("BadBoard", true), ("BadColumn", false), ("BadColumns", false), ("BadFault", false)], sRet (eStr "board")), ([("BadBoard", false), ("BadColumn", false), ("BadColumns", false), ("BadFault", true)], sRet (eStr "fault")), ([("BadBoard", false), ("BadColumn", true), ("BadColumns", false), ("BadFault", false)], sRet (eStr "column")), ([("BadBoard", false), ("BadColumn", false), ("BadColumns", true), ("BadFault", false)], sRet (eStr "columns"))]
def errB : ES := (sIf (tV (e2 dEq (eVar 0) (eInt 0))) (sExpr (eCall F_faults_of (eCons (eVar 1) (eNil)))) (sIf (tV (e2 dEq (eVar 0) (eInt 1))) (sExpr (eCall F_hidden (eCons (eVar 1) (eCons (eVar 3) (eNil))))) (sIf (tV (e2 dEq (eVar 0) (eInt 2))) (sExpr (eCall F_alike (eCons (eVar 1) (eCons (eVar 3) (eNil))))) (sIf (tV (e2 dEq (eVar 0) (eInt 3))) (sExpr (eCall F_ends_with (eCons (eVar 1) (eCons (eVar 2) (eCons (eVar 3) (eNil)))))) (sIf (tV (e2 dEq (eVar 0) (eInt 4))) (sExpr (eCall F_shows (eCons (eVar 1) (eCons (eVar 2) (eCons (eVar 3) (eNil)))))) (sExpr (eCall F_drop_with (eCons (eVar 1) (eCons (eVar 2) (eCons (eVar 3) (eNil)))))))))))
theorem err_eq : S__law_error = sCons (sTry errB errT) (sRet (eStr "none")) := rfl
theorem hn_board (ρ : Rho) : hnd errT ⟨"BadBoard", []⟩ ρ = .ret (.str "board") := by rfl
theorem hn_fault (ρ : Rho) : hnd errT ⟨"BadFault", []⟩ ρ = .ret (.str "fault") := by rfl
theorem hn_column (ρ : Rho) : hnd errT ⟨"BadColumn", []⟩ ρ = .ret (.str "column") := by rfl
theorem hn_columns (ρ : Rho) : hnd errT ⟨"BadColumns", []⟩ ρ = .ret (.str "columns") := by rfl
theorem err0 {a c d : D} {x : Exc} {z : Str} (h : F_faults_of [a] = .exc x) (hz : ∀ ρ, hnd errT x ρ = .ret (.str z)) : F__law_error [.int 0, a, c, d] = .ok (.str z) := by
  show runD 4 S__law_error _ = _
  rw [err_eq]
  simp [runD, sTry, errB, h, hz]
theorem err1 {a c d : D} {x : Exc} {z : Str} (h : F_hidden [a, d] = .exc x) (hz : ∀ ρ, hnd errT x ρ = .ret (.str z)) : F__law_error [.int 1, a, c, d] = .ok (.str z) := by
  show runD 4 S__law_error _ = _
  rw [err_eq]
  simp [runD, sTry, errB, h, hz]
theorem err2 {a c d : D} {x : Exc} {z : Str} (h : F_alike [a, d] = .exc x) (hz : ∀ ρ, hnd errT x ρ = .ret (.str z)) : F__law_error [.int 2, a, c, d] = .ok (.str z) := by
  show runD 4 S__law_error _ = _
  rw [err_eq]
  simp [runD, sTry, errB, h, hz]
theorem err3 {a c d : D} {x : Exc} {z : Str} (h : F_ends_with [a, c, d] = .exc x) (hz : ∀ ρ, hnd errT x ρ = .ret (.str z)) : F__law_error [.int 3, a, c, d] = .ok (.str z) := by
  show runD 4 S__law_error _ = _
  rw [err_eq]
  simp [runD, sTry, errB, h, hz]
theorem err4 {a c d : D} {x : Exc} {z : Str} (h : F_shows [a, c, d] = .exc x) (hz : ∀ ρ, hnd errT x ρ = .ret (.str z)) : F__law_error [.int 4, a, c, d] = .ok (.str z) := by
  show runD 4 S__law_error _ = _
  rw [err_eq]
  simp [runD, sTry, errB, h, hz]
theorem err5 {a c d : D} {x : Exc} {z : Str} (h : F_drop_with [a, c, d] = .exc x) (hz : ∀ ρ, hnd errT x ρ = .ret (.str z)) : F__law_error [.int 5, a, c, d] = .ok (.str z) := by
  show runD 4 S__law_error _ = _
  rw [err_eq]
  simp [runD, sTry, errB, h, hz]
/-! ### no boards -/
theorem cb_of {x d : D} (h : F_board_fault [x] = .ok d) (hd : isNone d = false) : F_check_board [x] = .exc xB := by
  show runD 1 S_check_board _ = _
  simp [runD, S_check_board, h, hd]
theorem cb_none : F_check_board [.none] = .exc xB := by
  refine cb_of (d := c_FORM) ?_ rfl
  show runD 6 S_board_fault _ = _
  simp [runD, S_board_fault, isaB, tyName]
theorem cb_empty : F_check_board [.tuple []] = .exc xB := by
  refine cb_of (d := c_FORM) ?_ rfl
  show runD 6 S_board_fault _ = _
  simp [runD, S_board_fault, isaB, tyName]
theorem cb_list (xs : List D) : F_check_board [.list xs] = .exc xB := by
  refine cb_of (d := c_FORM) ?_ rfl
  show runD 6 S_board_fault _ = _
  simp [runD, S_board_fault, isaB, tyName]
theorem l_x : Str.ofString "x" = rowT [120] := by decide +kernel
theorem cb_x : F_check_board [.tuple [.str "x"]] = .exc xB := by
  refine cb_of (d := .tuple [.str "sign", .int 0, .int 0]) ?_ rfl
  have f1 : fits 1 = true := rfl
  show runD 6 S_board_fault _ = _
  simp [runD, S_board_fault, isaB, tyName, l_x, compR, cStep, f1, dAll, bools, enumD, enumFrom', forL, B_board_fault_1, l_signs, sgns]
section
variable {x c d : D}
theorem b0 (h : F_check_board [x] = .exc xB) : F_faults_of [x] = .exc xB := by
  show runD 1 S_faults_of _ = _
  simp [runD, S_faults_of, h]
theorem b1 (h : F_check_board [x] = .exc xB) : F_hidden [x, c] = .exc xB := by
  show runD 2 S_hidden _ = _
  simp [runD, S_hidden, h]
theorem b2 (h : F_check_board [x] = .exc xB) : F_alike [x, c] = .exc xB := by
  show runD 5 S_alike _ = _
  simp [runD, S_alike, h]
theorem b3 (h : F_check_board [x] = .exc xB) : F_ends_with [x, c, d] = .exc xB := by
  show runD 3 S_ends_with _ = _
  simp [runD, S_ends_with, h]
theorem b4 (h : F_check_board [x] = .exc xB) : F_shows [x, c, d] = .exc xB := by
  show runD 3 S_shows _ = _
  simp [runD, S_shows, h]
theorem b5 (h : F_check_board [x] = .exc xB) : F_drop_with [x, c, d] = .exc xB := by
  show runD 3 S_drop_with _ = _
  simp [runD, S_drop_with, h]
end
/-! ### no numbers -/
theorem iw_true (lo hi : D) : F_is_whole [.bool true, lo, hi] = .ok (.bool false) := by
  show runD 3 S_is_whole _ = _
  simp [runD, S_is_whole, isaB, tyName]
theorem iw_none (lo hi : D) : F_is_whole [.none, lo, hi] = .ok (.bool false) := by
  show runD 3 S_is_whole _ = _
  simp [runD, S_is_whole, isaB, tyName]
section
variable {b : Bd} {h w : Nat} {x : D}
/-! ### no faults -/
theorem cf_type (B : BOk b h w) (hx : dIsi' "tuple" x = .ok (.bool false)) : F_check_fault [bdD b, x] = .exc xF := by
  show runD 3 S_check_fault _ = _
  simp [runD, S_check_fault, hx]
theorem cf_len {xs : List D} (hl : xs.length ≤ 2) : F_check_fault [bdD b, .tuple xs] = .exc xF := by
  have n1 : ¬ ((xs.length : Int) = 3) := by omega
  have n2 : ¬ (xs.length = 3) := by omega
  have f1 : fits xs.length = true := fits_k (by omega)
  show runD 3 S_check_fault _ = _
  simp [runD, S_check_fault, isaB, tyName, n1, n2, f1]
theorem cf_bool : F_check_fault [bdD b, .tuple [.str "stuck", .bool true, .int 0]] = .exc xF := by
  have f1 : fits 3 = true := rfl
  show runD 3 S_check_fault _ = _
  simp [runD, S_check_fault, isaB, tyName, f1]
theorem cf_none (B : BOk b h w) {s : Str} {i j : Int} (hv : ∀ g ∈ flts b h w, dEq (.tuple [.str s, .int i, .int j]) g.d = .ok (.bool false)) : F_check_fault [bdD b, .tuple [.str s, .int i, .int j]] = .exc xF := by
  have g2 := f_faults_in B
  have hl := flts_len B
  have f3 : fits 3 = true := rfl
  have c := any_fault (b := b) (h := h) (w := w) (.tuple [.str s, .int i, .int j]) (fun _ => false) hv
  have a := dAny_map ((flts b h w).map fun _ => false)
  have e : ((flts b h w).map fun _ => false).any id = false := by
    rw [List.any_map, List.any_eq_false]
    intro x _
    simp
  rw [e] at a
  have hf : fits (fsD (flts b h w)).length = true := fits_k (by unfold fsD; rw [List.length_map]; omega)
  have hl2 : (((flts b h w).map fun _ => false).map PyData.bool).length = (flts b h w).length := by simp
  have hf2 : fits (((flts b h w).map fun _ => false).map PyData.bool).length = true := fits_k (by omega)
  generalize ((flts b h w).map fun _ => false).map PyData.bool = BB at *
  generalize fsD (flts b h w) = X at *
  show runD 3 S_check_fault _ = _
  simp [runD, S_check_fault, f3, g2, hf, hf2, c, a, isaB, tyName]
theorem t_ub : ((Str.ofString "up" : Str) == Str.ofString "bent") = false := by decide +kernel
theorem t_us : ((Str.ofString "up" : Str) == Str.ofString "stuck") = false := by decide +kernel
theorem cf_up (B : BOk b h w) : F_check_fault [bdD b, .tuple [.str "up", .int 0, .int 0]] = .exc xF := cf_none B fun g _ => by
  have e : PyData.eqv (.tuple [.str (Str.ofString "up"), .int 0, .int 0]) g.d = false := by
    cases g <;> simp [Fl.d, PyData.eqv, PyData.eqvAll, t_ub, t_us]
  show guardR (eqOk _ g.d) (PyData.bool (PyData.eqv (.tuple [.str (Str.ofString "up"), .int 0, .int 0]) g.d)) = _
  rw [e, eqOk_of rfl (fl_plain g) (by have := fl_depth g; omega)]; rfl
theorem flt_in {f : Fl} (hf : f ∈ flts b h w) : ∃ p, (f = .bent p ∨ f = .stuck p) ∧ inR h w p := by
  unfold flts bents stucks at hf
  rcases List.mem_append.mp hf with hf | hf
  · obtain ⟨p, hp, rfl⟩ := List.mem_map.mp hf
    exact ⟨p, .inl rfl, mem_cells.mp (List.mem_filter.mp hp).1⟩
  · obtain ⟨p, hp, rfl⟩ := List.mem_map.mp hf
    exact ⟨p, .inr rfl, mem_cells.mp (List.mem_filter.mp hp).1⟩
theorem cf_far (B : BOk b h w) (h6 : h ≤ 6) : F_check_fault [bdD b, .tuple [.str "bent", .int 9, .int 9]] = .exc xF := cf_none B fun g hg => by
  have e : dEq (Fl.bent (9, 9)).d g.d = _ := dEq_fl (.bent (9, 9)) g
  have n : ¬ (Fl.bent (9, 9) = g) := fun z => by
    obtain ⟨p, q, r⟩ := flt_in hg
    rcases q with q | q
    · rw [← z] at q
      injection q with q
      rw [← q] at r
      have := r.2.1
      simp only at this
      omega
    · rw [← z] at q; cases q
  rw [decide_eq_false n] at e
  exact e
theorem x3_f (B : BOk b h w) (hx : F_check_fault [bdD b, x] = .exc xF) (c : D) : F_ends_with [bdD b, x, c] = .exc xF := by
  have g1 := f_check_board B
  show runD 3 S_ends_with _ = _
  simp [runD, S_ends_with, g1, hx]
theorem x4_f (B : BOk b h w) (hx : F_check_fault [bdD b, x] = .exc xF) (c : D) : F_shows [bdD b, x, c] = .exc xF := by
  have g1 := f_check_board B
  show runD 3 S_shows _ = _
  simp [runD, S_shows, g1, hx]
theorem x5_f (B : BOk b h w) (hx : F_check_fault [bdD b, x] = .exc xF) (c : D) : F_drop_with [bdD b, x, c] = .exc xF := by
  have g1 := f_check_board B
  show runD 3 S_drop_with _ = _
  simp [runD, S_drop_with, g1, hx]
/-! ### no columns -/
theorem ck_type (hx : dIsi' "tuple" x = .ok (.bool false)) : F_check_columns [bdD b, x] = .exc xCs := by
  show runD 3 S_check_columns _ = _
  simp [runD, S_check_columns, hx]
theorem ck_one (B : BOk b h w) (hx : F_is_whole [x, .int 0, .int ((w : Int) - 1)] = .ok (.bool false)) : F_check_columns [bdD b, .tuple [x]] = .exc xCs := by
  obtain ⟨row0, hl0, q0, q1⟩ := B.row0
  have f1 : fits 1 = true := rfl
  show runD 3 S_check_columns _ = _
  simp [runD, S_check_columns, isaB, tyName, compR, cStep, q0, q1, hx, f1, dAll, bools]
theorem ck_long {xs : List D} (hl : 200 < xs.length) (h2 : xs.length ≤ 300) : F_check_columns [bdD b, .tuple xs] = .exc xCs := by
  have n1 : ((xs.length : Int) > 200) := by omega
  have f1 : fits xs.length = true := fits_k (by omega)
  show runD 3 S_check_columns _ = _
  simp [runD, S_check_columns, isaB, tyName, n1, hl, f1]
theorem x1_c (B : BOk b h w) (hx : F_check_columns [bdD b, x] = .exc xCs) : F_hidden [bdD b, x] = .exc xCs := by
  have g1 := f_check_board B
  show runD 2 S_hidden _ = _
  simp [runD, S_hidden, g1, hx]
theorem x2_c (B : BOk b h w) (hx : F_check_columns [bdD b, x] = .exc xCs) : F_alike [bdD b, x] = .exc xCs := by
  have g1 := f_check_board B
  show runD 5 S_alike _ = _
  simp [runD, S_alike, g1, hx]
theorem x3_c (B : BOk b h w) {f : Fl} (hf : f ∈ flts b h w) (hx : F_check_columns [bdD b, x] = .exc xCs) : F_ends_with [bdD b, f.d, x] = .exc xCs := by
  have g1 := f_check_board B
  have g2 := f_check_fault B hf
  generalize f.d = FD at *
  show runD 3 S_ends_with _ = _
  simp [runD, S_ends_with, g1, g2, hx]
theorem x4_c (B : BOk b h w) {f : Fl} (hf : f ∈ flts b h w) (hx : F_check_columns [bdD b, x] = .exc xCs) : F_shows [bdD b, f.d, x] = .exc xCs := by
  have g1 := f_check_board B
  have g2 := f_check_fault B hf
  generalize f.d = FD at *
  show runD 3 S_shows _ = _
  simp [runD, S_shows, g1, g2, hx]
theorem x5_c (B : BOk b h w) {f : Fl} (hf : f ∈ flts b h w) (hx : F_is_whole [x, .int 0, .int ((w : Int) - 1)] = .ok (.bool false)) : F_drop_with [bdD b, f.d, x] = .exc xC := by
  obtain ⟨row0, hl0, q0, q1⟩ := B.row0
  have g1 := f_check_board B
  have g2 := f_check_fault B hf
  have g3 : F_check_column [bdD b, x] = .exc xC := by
    show runD 2 S_check_column _ = _
    simp [runD, S_check_column, q0, q1, hx]
  generalize f.d = FD at *
  show runD 3 S_drop_with _ = _
  simp [runD, S_drop_with, g1, g2, g3]
end
end PQ

namespace PQ
open PySem PySem.Spec PyProof.Rows L2
open PySem.W (alike alikeAll dataLt dataLe)
theorem bd_plain (b : Bd) : (bdD b).plain = true := by
  have := plain_strs (b.map rowT)
  rw [List.map_map] at this
  exact this
theorem bd_depth (b : Bd) : (bdD b).depth ≤ 2 := by
  have key : ∀ b : Bd, PyData.depthAll (b.map fun r => PyData.str (rowT r)) ≤ 1 := by
    intro b
    induction b with
    | nil => exact Nat.zero_le _
    | cons r b ih =>
      have e : PyData.depth (.str (rowT r)) ≤ 1 := by unfold PyData.depth; omega
      show max (PyData.depth (.str (rowT r))) (PyData.depthAll (b.map fun r => PyData.str (rowT r))) ≤ 1
      omega
  have := key b
  unfold bdD
  rw [depth_tup]
  omega
theorem dNe_be (b : Bd) (e : En) : dNe (.tuple [bdD b, e.d]) (.tuple [bdD b, e.d]) = .ok (.bool false) := by
  refine dNe_self ?_ ?_
  · show ((bdD b).plain && (e.d.plain && true)) = true
    rw [bd_plain, EnF.pl]; rfl
  · rw [depth_tup]
    have h1 := bd_depth b
    have h2 := EnF.dp e
    show 1 + max (bdD b).depth (max e.d.depth 0) ≤ 60
    omega
section
variable {b : Bd} {h w : Nat} {ns : List Int} {cs : List Int}
theorem bl1 (B : BOk b h w) (hm : h * w ≤ 41) (hl : ns.length = 60) {t : Nat} (ht : t < 3) {f : Fl} (hf : f ∈ flts b h w) (F : D) : ∃ x, B_law_1 [.u, .f (.list (ns.map .int)), .f (bdD b), .f (.int w), .u, .f F, .f (.int t), .f f.d, .u, .u, .u, .u, .u, .u, .u, .u, .u, .u, .u] = .nx [.u, .f (.list (ns.map .int)), .f (bdD b), .f (.int w), .u, .f F, .f (.int t), .f f.d, .u, .u, .u, .u, .u, .u, x, .u, .u, .u, .u] := by
  have hw1 := B.w1
  have hw2 := B.w2
  have g1 : atI (ns.map PyData.int) (54 + (t : Int)) = some (.int (ns.getD (54 + t) 0)) := by
    have := dr_at (ns := ns) (k := 54 + t) (by omega)
    rwa [show ((54 + t : Nat) : Int) = 54 + (t : Int) by omega] at this
  generalize ns.getD (54 + t) 0 = d1 at g1
  have hc : 0 ≤ d1 % (w : Int) ∧ d1 % (w : Int) < w := ⟨Int.emod_nonneg _ (by omega), Int.emod_lt_of_pos _ (by omega)⟩
  have g2 := f_drop_with B hf hc
  have g3 : F__law_with [bdD b, f.d, .int (d1 % (w : Int))] = _ := f_law_with B hm (some f) hc
  have g4 := dNe_be (fw h w (some f) b (d1 % (w : Int))).1 (fw h w (some f) b (d1 % (w : Int))).2
  have hdo : divOk (w : Int) = true := by unfold divOk; rw [decide_eq_true (by omega), decide_eq_true (by omega)]; rfl
  have hw0 : 0 < w := by omega
  refine ⟨.f (.int (d1 % (w : Int))), ?_⟩
  generalize PyData.tuple [bdD (fw h w (some f) b (d1 % (w : Int))).1, (fw h w (some f) b (d1 % (w : Int))).2.d] = TD at *
  generalize f.d = FD at *
  simp [B_law_1, g1, hdo, hw0, g2, g3, g4]
theorem lb7 (B : BOk b h w) (hm : h * w ≤ 41) (hl : ns.length = 60) {t : Nat} (ht : t < 3) (a9 a10 a11 : Sl) : LB7 [.u, .f (.list (ns.map .int)), .f (bdD b), .f (.int w), .u, .f (.list (fsD (flts b h w))), .f (.int t), .u, .u, a9, a10, a11, .u, .u, .u, .u, .u, .u, .u] = .nx [.u, .f (.list (ns.map .int)), .f (bdD b), .f (.int w), .u, .f (.list (fsD (flts b h w))), .f (.int t), .u, .u, .u, .u, .u, .u, .u, .u, .u, .u, .u, .u] := by
  have lp : forL (aName 7) B_law_1 [0, 4, 7, 8, 9, 10, 11, 12, 13, 14, 15, 16, 17, 18] (cutL (fsD (flts b h w)) none (some 8)) [.u, .f (.list (ns.map .int)), .f (bdD b), .f (.int w), .u, .f (.list (fsD (flts b h w))), .f (.int t), .u, .u, .u, .u, .u, .u, .u, .u, .u, .u, .u, .u] = .nx [.u, .f (.list (ns.map .int)), .f (bdD b), .f (.int w), .u, .f (.list (fsD (flts b h w))), .f (.int t), .u, .u, .u, .u, .u, .u, .u, .u, .u, .u, .u, .u] := by
    refine forL_const _ fun d hd => ?_
    have hd : d ∈ fsD (flts b h w) := by
      unfold cutL at hd
      exact List.mem_of_mem_drop (List.mem_of_mem_take hd)
    obtain ⟨f, hf, rfl⟩ := List.mem_map.mp hd
    obtain ⟨x, hx⟩ := bl1 B hm hl ht hf (.list (fsD (flts b h w)))
    exact ⟨_, _, rfl, hx, rfl⟩
  generalize fsD (flts b h w) = X at *
  simp [LB7, lp]
theorem turn_ok (B : BOk b h w) (hm : h * w ≤ 41) (hl : ns.length = 60) {t : Nat} (ht : t < 3) : ∃ ρ, B_law_2 [.u, .f (.list (ns.map .int)), .f (bdD b), .f (.int w), .u, .f (.list (fsD (flts b h w))), .f (.int t), .u, .u, .u, .u, .u, .u, .u, .u, .u, .u, .u, .u] = .nx ρ ∧ wipeR ρ [0, 4, 6, 7, 8, 9, 10, 11, 12, 13, 14, 15, 16, 17, 18] = [.u, .f (.list (ns.map .int)), .f (bdD b), .f (.int w), .u, .f (.list (fsD (flts b h w))), .u, .u, .u, .u, .u, .u, .u, .u, .u, .u, .u, .u, .u] := by
  obtain ⟨cs, hc, hcl, s1⟩ := lb1 B hl ht
  have all := seqS (s1 (.list (fsD (flts b h w)))) (seqS (lb2 B hm hc hcl _) (seqS (lb3 B hm hc hcl) (seqS (lb4 B hm hc hcl) (seqS (lb5 B hc hcl) (seqS (lb6 B hc hcl) (lb7 B hm hl ht _ _ _))))))
  rw [← LB_eq] at all
  exact ⟨_, all, rfl⟩
theorem s8 (B : BOk b h w) (hm : h * w ≤ 41) (hl : ns.length = 60) (a0 a4 : Sl) : SL8 [a0, .f (.list (ns.map .int)), .f (bdD b), .f (.int w), a4, .f (.list (fsD (flts b h w))), .u, .u, .u, .u, .u, .u, .u, .u, .u, .u, .u, .u, .u] = .nx [.u, .f (.list (ns.map .int)), .f (bdD b), .f (.int w), .u, .f (.list (fsD (flts b h w))), .u, .u, .u, .u, .u, .u, .u, .u, .u, .u, .u, .u, .u] := by
  have lp : forL (aName 6) B_law_2 [0, 4, 6, 7, 8, 9, 10, 11, 12, 13, 14, 15, 16, 17, 18] (rgD 0 3) [.u, .f (.list (ns.map .int)), .f (bdD b), .f (.int w), .u, .f (.list (fsD (flts b h w))), .u, .u, .u, .u, .u, .u, .u, .u, .u, .u, .u, .u, .u] = .nx [.u, .f (.list (ns.map .int)), .f (bdD b), .f (.int w), .u, .f (.list (fsD (flts b h w))), .u, .u, .u, .u, .u, .u, .u, .u, .u, .u, .u, .u, .u] := by
    refine forL_const _ fun d hd => ?_
    rw [show (3 : Int) = ((3 : Nat) : Int) from rfl, rgD_nat] at hd
    obtain ⟨t, ht, rfl⟩ := List.mem_map.mp hd
    obtain ⟨ρ, t1, t2⟩ := turn_ok B hm hl (List.mem_range.mp ht)
    exact ⟨_, ρ, rfl, t1, t2⟩
  have hb : big62 3 = true := by rfl
  generalize fsD (flts b h w) = X at *
  simp [SL8, hb, lp]
/-- the first fault -/
abbrev hF (b : Bd) (h w : Nat) : D := oF (flts b h w).head?
theorem s9 (B : BOk b h w) (DS : D) : SL9 [.u, .f DS, .f (bdD b), .f (.int w), .u, .f (.list (fsD (flts b h w))), .u, .u, .u, .u, .u, .u, .u, .u, .u, .u, .u, .u, .u] = .nx [.u, .f DS, .f (bdD b), .f (.int w), .u, .f (.list (fsD (flts b h w))), .u, .f (hF b h w), .u, .u, .u, .u, .u, .u, .u, .u, .u, .u, .u] := by
  have hfl := flts_len B
  have hf : fits (fsD (flts b h w)).length = true := fits_k (by unfold fsD; rw [List.length_map]; omega)
  unfold hF
  cases e : flts b h w with
  | nil => simp [SL9, fsD, oF]
  | cons f fs =>
    rw [e] at hf hfl
    rw [List.length_cons] at hfl
    have hf : fits (fs.length + 1) = true := fits_k (by omega)
    have : (0 : Int) < (fs.length : Int) + 1 := by omega
    have g : dIxD (.list (f.d :: fs.map Fl.d)) (.int 0) = .ok f.d := by rw [x_ixDL, atI_0]; rfl
    unfold fsD
    show SL9 [.u, .f DS, .f (bdD b), .f (.int w), .u, .f (.list (f.d :: fs.map Fl.d)), .u, .u, .u, .u, .u, .u, .u, .u, .u, .u, .u, .u, .u] = .nx [.u, .f DS, .f (bdD b), .f (.int w), .u, .f (.list (f.d :: fs.map Fl.d)), .u, .f f.d, .u, .u, .u, .u, .u, .u, .u, .u, .u, .u, .u]
    have hl : (fs.map Fl.d).length = fs.length := List.length_map _
    generalize fs.map Fl.d = Y at *
    generalize f.d = FD at *
    simp [-x_ixDL, SL9, hl, hf, this, g]
end
end PQ

namespace PQ
open PySem PySem.Spec PyProof.Rows L2
open PySem.W (alike alikeAll dataLt dataLe)
theorem rep (z : Str) (k : Nat) (hk : k ≤ 10) : dMul (.list [.str z]) (.int k) = .ok (.list (List.replicate k (.str z))) := by
  have e : (List.replicate ((k : Nat) : Int).toNat [PyData.str z]).flatten = List.replicate k (.str z) := by rw [Int.toNat_natCast]; simp
  show guardR _ _ = _
  rw [e]
  refine guardR_of ?_ _
  unfold repOk
  simp only [Bool.and_eq_true, decide_eq_true_eq]
  exact ⟨⟨by omega, by omega⟩, fits_k (by show 1 * _ ≤ _; omega)⟩
section
variable {b : Bd} {h w : Nat} {x HF s1 s5 : D}
theorem bl3 (hx : F_check_board [x] = .exc xB) : B_law_3 [.u, .u, .f (bdD b), .f (.int w), .u, .u, .u, .f HF, .f x, .u, .u, .u, .u, .u, .u, .u, .u, .u, .u] = .nx [.u, .u, .f (bdD b), .f (.int w), .u, .u, .u, .f HF, .f x, .u, .u, .u, .u, .u, .u, .u, .u, .u, .u] := by
  have e0 := err0 (c := HF) (d := .tuple []) (b0 hx) hn_board
  have e1 := err1 (c := HF) (d := .tuple []) (b1 (c := .tuple []) hx) hn_board
  have e2 := err2 (c := HF) (d := .tuple []) (b2 (c := .tuple []) hx) hn_board
  have e3 := err3 (c := HF) (d := .tuple []) (b3 hx) hn_board
  have e4 := err4 (c := HF) (d := .tuple []) (b4 hx) hn_board
  have e5 := err5 (c := HF) (d := .int 0) (b5 hx) hn_board
  have rg : rgD 0 5 = [.int 0, .int 1, .int 2, .int 3, .int 4] := rfl
  have hb : big62 5 = true := by rfl
  have m : dMul (.list [.str (Str.ofString "board")]) (.int 6) = .ok (.list [.str (Str.ofString "board"), .str (Str.ofString "board"), .str (Str.ofString "board"), .str (Str.ofString "board"), .str (Str.ofString "board"), .str (Str.ofString "board")]) := by rfl
  have n : dNe (.list [.str (Str.ofString "board"), .str (Str.ofString "board"), .str (Str.ofString "board"), .str (Str.ofString "board"), .str (Str.ofString "board"), .str (Str.ofString "board")]) (.list [.str (Str.ofString "board"), .str (Str.ofString "board"), .str (Str.ofString "board"), .str (Str.ofString "board"), .str (Str.ofString "board"), .str (Str.ofString "board")]) = .ok (.bool false) := dNe_self (by rfl) (Nat.le_of_ble_eq_true (by rfl))
  have f5 : fits 5 = true := rfl
  have f6 : fits 6 = true := rfl
  have c : compR (cStep (aName 17) tTrue (eCall F__law_error (eCons (eVar 17) (eCons (eVar 8) (eCons (eVar 7) (eCons (eTup (eNil)) (eNil)))))) [.u, .u, .f (bdD b), .f (.int w), .u, .u, .u, .f HF, .f x, .u, .u, .u, .u, .u, .u, .u, .u, .u, .u]) [.int 0, .int 1, .int 2, .int 3, .int 4] = .ok [.str (Str.ofString "board"), .str (Str.ofString "board"), .str (Str.ofString "board"), .str (Str.ofString "board"), .str (Str.ofString "board")] := by
    simp [compR, cStep, e0, e1, e2, e3, e4]
  simp [B_law_3, hb, rg, f5, c, e5, m, n, f6]
theorem bl4 (B : BOk b h w) (hx : F_check_fault [bdD b, x] = .exc xF) : B_law_4 [.u, .u, .f (bdD b), .f (.int w), .u, .u, .u, .f HF, .f x, .u, .u, .u, .u, .u, .u, .u, .u, .u, .u] = .nx [.u, .u, .f (bdD b), .f (.int w), .u, .u, .u, .f HF, .f x, .u, .u, .u, .u, .u, .u, .u, .u, .u, .u] := by
  have e3 := err3 (x3_f B hx (.tuple [])) hn_fault
  have e4 := err4 (x4_f B hx (.tuple [])) hn_fault
  have e5 := err5 (x5_f B hx (.int 0)) hn_fault
  have m : dMul (.list [.str (Str.ofString "fault")]) (.int 3) = .ok (.list [.str (Str.ofString "fault"), .str (Str.ofString "fault"), .str (Str.ofString "fault")]) := by rfl
  have n : dNe (.list [.str (Str.ofString "fault"), .str (Str.ofString "fault"), .str (Str.ofString "fault")]) (.list [.str (Str.ofString "fault"), .str (Str.ofString "fault"), .str (Str.ofString "fault")]) = .ok (.bool false) := dNe_self (by rfl) (Nat.le_of_ble_eq_true (by rfl))
  have f2 : fits 2 = true := rfl
  have f3 : fits 3 = true := rfl
  have c : compR (cStep (aName 17) tTrue (eCall F__law_error (eCons (eVar 17) (eCons (eVar 2) (eCons (eVar 8) (eCons (eTup (eNil)) (eNil)))))) [.u, .u, .f (bdD b), .f (.int w), .u, .u, .u, .f HF, .f x, .u, .u, .u, .u, .u, .u, .u, .u, .u, .u]) [.int 3, .int 4] = .ok [.str (Str.ofString "fault"), .str (Str.ofString "fault")] := by
    simp [compR, cStep, e3, e4]
  simp [B_law_4, f2, c, e5, m, n, f3]
theorem hF_cases (b : Bd) (h w : Nat) : (hF b h w = .none) ∨ ∃ f ∈ flts b h w, hF b h w = f.d := by
  unfold hF
  cases e : (flts b h w).head? with
  | none => exact .inl rfl
  | some f => exact .inr ⟨f, List.mem_of_mem_head? e, rfl⟩
theorem fl_some (f : Fl) : isNone f.d = false := by cases f <;> rfl
theorem bl5 (B : BOk b h w) (hx : F_check_columns [bdD b, x] = .exc xCs) : B_law_5 [.u, .u, .f (bdD b), .f (.int w), .u, .u, .u, .f (hF b h w), .f x, .u, .u, .u, .u, .u, .u, .u, .u, .u, .u] = .nx [.u, .u, .f (bdD b), .f (.int w), .u, .u, .u, .f (hF b h w), .f x, .u, .u, .u, .u, .u, .u, .u, .u, .u, .u] := by
  have m : dMul (.list [.str (Str.ofString "columns")]) (.int 2) = .ok (.list [.str (Str.ofString "columns"), .str (Str.ofString "columns")]) := by rfl
  have n : dNe (.list [.str (Str.ofString "columns"), .str (Str.ofString "columns")]) (.list [.str (Str.ofString "columns"), .str (Str.ofString "columns")]) = .ok (.bool false) := dNe_self (by rfl) (Nat.le_of_ble_eq_true (by rfl))
  have f2 : fits 2 = true := rfl
  have c1 : ∀ HF : D, compR (cStep (aName 17) tTrue (eCall F__law_error (eCons (eVar 17) (eCons (eVar 2) (eCons (eVar 7) (eCons (eVar 8) (eNil)))))) [.u, .u, .f (bdD b), .f (.int w), .u, .u, .u, .f HF, .f x, .u, .u, .u, .u, .u, .u, .u, .u, .u, .u]) [.int 1, .int 2] = .ok [.str (Str.ofString "columns"), .str (Str.ofString "columns")] := by
    intro HF
    have e1 := err1 (c := HF) (x1_c B hx) hn_columns
    have e2 := err2 (c := HF) (x2_c B hx) hn_columns
    simp [compR, cStep, e1, e2]
  rcases hF_cases b h w with e | ⟨f, hf, e⟩
  · rw [e]
    have c1 := c1 .none
    simp [B_law_5, f2, c1, m, n]
  · rw [e]
    have c1 := c1 f.d
    have e3 := err3 (x3_c B hf hx) hn_columns
    have e4 := err4 (x4_c B hf hx) hn_columns
    have nn := fl_some f
    generalize f.d = FD at *
    have c2 : compR (cStep (aName 17) tTrue (eCall F__law_error (eCons (eVar 17) (eCons (eVar 2) (eCons (eVar 7) (eCons (eVar 8) (eNil)))))) [.u, .u, .f (bdD b), .f (.int w), .u, .u, .u, .f FD, .f x, .u, .u, .u, .u, .u, .u, .u, .u, .u, .u]) [.int 3, .int 4] = .ok [.str (Str.ofString "columns"), .str (Str.ofString "columns")] := by
      simp [compR, cStep, e3, e4]
    simp [B_law_5, f2, c1, c2, m, n, nn]
theorem s10 (HF DS s0 : D) : SL10 [.u, .f DS, .f (bdD b), .f (.int w), .u, .f s0, .u, .f HF, .u, .u, .u, .u, .u, .u, .u, .u, .u, .u, .u] = .nx [.u, .u, .f (bdD b), .f (.int w), .u, .u, .u, .f HF, .u, .u, .u, .u, .u, .u, .u, .u, .u, .u, .u] := by
  have ld : dListD [bdD b] = .ok (.list (b.map fun r => PyData.str (rowT r))) := rfl
  have lp : forL (aName 8) B_law_3 [0, 1, 4, 5, 6, 8, 9, 10, 11, 12, 13, 14, 15, 16, 17, 18] [.none, .tuple [], .list (b.map fun r => PyData.str (rowT r)), .tuple [.str "x"]] [.u, .u, .f (bdD b), .f (.int w), .u, .u, .u, .f HF, .u, .u, .u, .u, .u, .u, .u, .u, .u, .u, .u] = .nx [.u, .u, .f (bdD b), .f (.int w), .u, .u, .u, .f HF, .u, .u, .u, .u, .u, .u, .u, .u, .u, .u, .u] := by
    refine forL_const _ fun d hd => ?_
    have hx : F_check_board [d] = .exc xB := by
      simp only [List.mem_cons, List.not_mem_nil, or_false] at hd
      rcases hd with rfl | rfl | rfl | rfl
      · exact cb_none
      · exact cb_empty
      · exact cb_list _
      · exact cb_x
    exact ⟨_, _, rfl, bl3 hx, rfl⟩
  generalize (b.map fun r => PyData.str (rowT r)) = LB at ld lp
  simp [SL10, ld, lp]
theorem s11 (B : BOk b h w) (h6 : h ≤ 6) (HF : D) : SL11 [.u, .u, .f (bdD b), .f (.int w), .u, .u, .u, .f HF, .u, .u, .u, .u, .u, .u, .u, .u, .u, .u, .u] = .nx [.u, .u, .f (bdD b), .f (.int w), .u, .u, .u, .f HF, .u, .u, .u, .u, .u, .u, .u, .u, .u, .u, .u] := by
  have lp : forL (aName 8) B_law_4 [0, 1, 4, 5, 6, 8, 9, 10, 11, 12, 13, 14, 15, 16, 17, 18] [.none, .tuple [], .tuple [.str "bent", .int 0], .tuple [.str "bent", .int 9, .int 9], .tuple [.str "up", .int 0, .int 0], .list [.str "bent", .int 0, .int 0], .tuple [.str "stuck", .bool true, .int 0], .int 5] [.u, .u, .f (bdD b), .f (.int w), .u, .u, .u, .f HF, .u, .u, .u, .u, .u, .u, .u, .u, .u, .u, .u] = .nx [.u, .u, .f (bdD b), .f (.int w), .u, .u, .u, .f HF, .u, .u, .u, .u, .u, .u, .u, .u, .u, .u, .u] := by
    refine forL_const _ fun d hd => ?_
    have hx : F_check_fault [bdD b, d] = .exc xF := by
      simp only [List.mem_cons, List.not_mem_nil, or_false] at hd
      rcases hd with rfl | rfl | rfl | rfl | rfl | rfl | rfl | rfl
      · exact cf_type B rfl
      · exact cf_len (by decide)
      · exact cf_len (Nat.le_refl 2)
      · exact cf_far B h6
      · exact cf_up B
      · exact cf_type B rfl
      · exact cf_bool
      · exact cf_type B rfl
    exact ⟨_, _, rfl, bl4 B hx, rfl⟩
  simp [SL11, lp]
theorem iw_int (B : BOk b h w) {i : Int} (hi : ¬ (0 ≤ i ∧ i ≤ (w : Int) - 1)) : F_is_whole [.int i, .int 0, .int ((w : Int) - 1)] = .ok (.bool false) := by
  have g := f_is_whole i 0 ((w : Int) - 1)
  rwa [decide_eq_false hi] at g
theorem s12 (B : BOk b h w) : SL12 [.u, .u, .f (bdD b), .f (.int w), .u, .u, .u, .f (hF b h w), .u, .u, .u, .u, .u, .u, .u, .u, .u, .u, .u] = .nx [.u, .u, .f (bdD b), .f (.int w), .u, .u, .u, .f (hF b h w), .u, .u, .u, .u, .u, .u, .u, .u, .u, .u, .u] := by
  have r201 : dMulT (.tuple [.int 0]) (.int 201) = .ok (.tuple (List.replicate 201 (.int 0))) := by rfl
  have lp : forL (aName 8) B_law_5 [0, 1, 4, 5, 6, 8, 9, 10, 11, 12, 13, 14, 15, 16, 17, 18] [.none, .list [.int 0], .tuple [.int w], .tuple [.int (-1)], .tuple [.bool true], .tuple (List.replicate 201 (.int 0))] [.u, .u, .f (bdD b), .f (.int w), .u, .u, .u, .f (hF b h w), .u, .u, .u, .u, .u, .u, .u, .u, .u, .u, .u] = .nx [.u, .u, .f (bdD b), .f (.int w), .u, .u, .u, .f (hF b h w), .u, .u, .u, .u, .u, .u, .u, .u, .u, .u, .u] := by
    refine forL_const _ fun d hd => ?_
    have hx : F_check_columns [bdD b, d] = .exc xCs := by
      simp only [List.mem_cons, List.not_mem_nil, or_false] at hd
      rcases hd with rfl | rfl | rfl | rfl | rfl | rfl
      · exact ck_type rfl
      · exact ck_type rfl
      · exact ck_one B (iw_int B (by omega))
      · exact ck_one B (iw_int B (by omega))
      · exact ck_one B (iw_true _ _)
      · exact ck_long (by rw [List.length_replicate]; omega) (by rw [List.length_replicate]; omega)
    exact ⟨_, _, rfl, bl5 B hx, rfl⟩
  generalize hF b h w = HF at *
  generalize List.replicate 201 (PyData.int 0) = LL at *
  simp [SL12, r201, lp]
theorem s13 (B : BOk b h w) : SL13 [.u, .u, .f (bdD b), .f (.int w), .u, .u, .u, .f (hF b h w), .u, .u, .u, .u, .u, .u, .u, .u, .u, .u, .u] = .nx [.u, .u, .f (bdD b), .f (.int w), .u, .u, .u, .f (hF b h w), .u, .u, .u, .u, .u, .u, .u, .u, .u, .u, .u] := by
  rcases hF_cases b h w with e | ⟨f, hf, e⟩
  · rw [e]
    simp [SL13]
  · rw [e]
    have m : dMul (.list [.str (Str.ofString "column")]) (.int 4) = .ok (.list [.str (Str.ofString "column"), .str (Str.ofString "column"), .str (Str.ofString "column"), .str (Str.ofString "column")]) := by rfl
    have n : dNe (.list [.str (Str.ofString "column"), .str (Str.ofString "column"), .str (Str.ofString "column"), .str (Str.ofString "column")]) (.list [.str (Str.ofString "column"), .str (Str.ofString "column"), .str (Str.ofString "column"), .str (Str.ofString "column")]) = .ok (.bool false) := dNe_self (by rfl) (Nat.le_of_ble_eq_true (by rfl))
    have f4 : fits 4 = true := rfl
    have nn := fl_some f
    have e1 := err5 (x5_c B hf (x := .int (-1)) (iw_int B (by omega))) hn_column
    have e2 := err5 (x5_c B hf (x := .int w) (iw_int B (by omega))) hn_column
    have e3 := err5 (x5_c B hf (x := .bool true) (iw_true _ _)) hn_column
    have e4 := err5 (x5_c B hf (x := .none) (iw_none _ _)) hn_column
    generalize f.d = FD at *
    have c : compR (cStep (aName 8) tTrue (eCall F__law_error (eCons (eInt 5) (eCons (eVar 2) (eCons (eVar 7) (eCons (eVar 8) (eNil)))))) [.u, .u, .f (bdD b), .f (.int w), .u, .u, .u, .f FD, .u, .u, .u, .u, .u, .u, .u, .u, .u, .u, .u]) [.int (-1), .int w, .bool true, .none] = .ok [.str (Str.ofString "column"), .str (Str.ofString "column"), .str (Str.ofString "column"), .str (Str.ofString "column")] := by
      simp [compR, cStep, e1, e2, e3, e4]
    simp [SL13, nn, f4, c, m, n]
theorem k1 : F_drop_with [.tuple [.str (Str.ofString "L.")], .tuple [.str (Str.ofString "stuck"), .int 0, .int 0], .int 0] = .ok (.tuple [.tuple [.str (Str.ofString "L.")], .tuple [.str (Str.ofString "left"), .int 0]]) := by rfl
theorem k2 : F_drop_with [.tuple [.str (Str.ofString "/.")], .tuple [.str (Str.ofString "bent"), .int 0, .int 0], .int 0] = .ok (.tuple [.tuple [.str (Str.ofString "/.")], .tuple [.str (Str.ofString "out"), .int 1]]) := by rfl
theorem k3 : F_hidden [.tuple [.str (Str.ofString ".L")], .tuple [.int 0, .int 0]] = .ok (.tuple [.tuple [.str (Str.ofString "stuck"), .int 0, .int 1]]) := by rfl
end
end PQ

namespace PQ
open PySem PySem.Spec PyProof.Rows L2
open PySem.W (alike alikeAll dataLt dataLe)
theorem s14 (ρ : Rho) : SL14 ρ = .ret (.bool true) := by
  have a1 := k1
  have a2 := k2
  have a3 := k3
  have t1 : dEq (.tuple [.tuple [.str (Str.ofString "L.")], .tuple [.str (Str.ofString "left"), .int 0]]) (.tuple [.tuple [.str (Str.ofString "L.")], .tuple [.str (Str.ofString "left"), .int 0]]) = .ok (.bool true) := dEq_self (by rfl) (Nat.le_of_ble_eq_true (by rfl))
  have t2 : dEq (.tuple [.tuple [.str (Str.ofString "/.")], .tuple [.str (Str.ofString "out"), .int 1]]) (.tuple [.tuple [.str (Str.ofString "/.")], .tuple [.str (Str.ofString "out"), .int 1]]) = .ok (.bool true) := dEq_self (by rfl) (Nat.le_of_ble_eq_true (by rfl))
  have t3 : dEq (.tuple [.tuple [.str (Str.ofString "stuck"), .int 0, .int 1]]) (.tuple [.tuple [.str (Str.ofString "stuck"), .int 0, .int 1]]) = .ok (.bool true) := dEq_self (by rfl) (Nat.le_of_ble_eq_true (by rfl))
  simp [SL14, a1, a2, a3, t1, t2, t3]
theorem law_true (ns : List Int) (hn : ns.length ≤ 63) : F_law ns [] = .ok (.bool true) := by
  obtain ⟨ds, h1, h2, h3⟩ := law_draws ns hn 60 (by omega)
  obtain ⟨ms, rfl, hms⟩ := draws_ints h3
  have hl : ms.length = 60 := by rw [← h2, List.length_map]
  have h1' : F__law_draws ns [.int 60] = .ok (.list (ms.map .int)) := h1
  have a26 : atI (ms.map PyData.int) 26 = some (.int (ms.getD 26 0)) := dr_at (ns := ms) (k := 26) (by omega)
  obtain ⟨S, b, h, w, e1, B, h6, w6, e2⟩ := sgn_cases (ns := ms) (by omega) (ms.getD 26 0)
  have hm : h * w ≤ 41 := by
    have := Nat.mul_le_mul h6 w6
    omega
  generalize ms.getD 26 0 = d at *
  obtain ⟨row0, hl0, q0, q1⟩ := B.row0
  have hd4 : divOk 4 = true := by rfl
  have s1 : SL1 [.s ns, .u, .u, .u, .u, .u, .u, .u, .u, .u, .u, .u, .u, .u, .u, .u, .u, .u, .u] = .nx [.s ns, .f (.list (ms.map .int)), .u, .u, .u, .u, .u, .u, .u, .u, .u, .u, .u, .u, .u, .u, .u, .u, .u] := by
    generalize ms.map PyData.int = MS at *
    simp [SL1, h1']
  have s2 : SL2 [.s ns, .f (.list (ms.map .int)), .u, .u, .u, .u, .u, .u, .u, .u, .u, .u, .u, .u, .u, .u, .u, .u, .u] = .nx [.s ns, .f (.list (ms.map .int)), .f (bdD b), .u, .u, .u, .u, .u, .u, .u, .u, .u, .u, .u, .u, .u, .u, .u, .u] := by
    generalize ms.map PyData.int = MS at *
    have a26' : dIxD (.list MS) (.int 26) = .ok (.int d) := by rw [x_ixDL, a26]; rfl
    simp [-x_ixDL, SL2, a26', hd4, e1, e2]
  have s3 : SL3 [.s ns, .f (.list (ms.map .int)), .f (bdD b), .u, .u, .u, .u, .u, .u, .u, .u, .u, .u, .u, .u, .u, .u, .u, .u] = .nx [.s ns, .f (.list (ms.map .int)), .f (bdD b), .f (.int w), .u, .u, .u, .u, .u, .u, .u, .u, .u, .u, .u, .u, .u, .u, .u] := by
    generalize ms.map PyData.int = MS at *
    simp [SL3, q0, q1]
  have all := seqS s1 (seqS s2 (seqS s3 (seqS s4 (seqS (s5 B h6 w6) (seqS (s6 B) (seqS (s7 B) (seqS (s8 B hm hl _ _) (seqS (s9 B _) (seqS (s10 _ _ _) (seqS (s11 B h6 _) (seqS (s12 B) (seqS (s13 B) (s14 _)))))))))))))
  show runS 19 S_law ns [] = _
  rw [← SL_eq] at all
  show (S_law _).res = _
  exact congrArg Out.res all
end PQ

namespace PQ
open PySem PySem.Spec PyProof.Rows L2
theorem all_law {P : Program} {w : World} {K : PySem.W.Frag} {mg : Str → Option Value} {fa : Addr} (hF : ∀ ns : List Int, ns.length ≤ 63 → F_law ns [] = .ok (.bool true)) (h : ∃ T : Txt P w K mg, T.f_law = fa ∧ ∀ (s : Shared) (v : Value), BindsTo s T.d_law ⟨[v], []⟩ [("script", v)]) :
    ∃ fd : FuncData, (∀ (s : Shared) (u : Value), BindsTo s fd ⟨[u], []⟩ [("script", u)]) ∧ ∀ base : Heap, K.In base → base.Ns mainGlobals mg → FnOk P w K mg base (L2.CX P w) 9 fa fd ["script"] (spLaw K) := by
  obtain ⟨T, rfl, hb⟩ := h
  exact ⟨T.d_law, hb, fun base _ _ => (ok_law T).imp fun vs H Q E q => law_imp hF q⟩
end PQ
open PySem PySem.W PyProof.Rows
set_option maxHeartbeats 0 in
theorem PySem.Challenge.cw_marblewright_k56_whole_faults_holds : PySem.Challenge.rw_marblewright_k56_whole_faults.Holds := by
  w_on; o_law; k_head; (case hw => w_witness2)
  k_fill
  refine L2.walk_of (l := PySem.Challenge.rw_marblewright_k56_whole_faults) (n := 63) (k := 9) (x := "script") (CX := fun w => L2.CX (PySem.Challenge.rw_marblewright_k56_whole_faults).prog w) (sp := fun w => PQ.spLaw _) rfl (by decide) rfl ⟨rfl, by decide, by decide⟩ (fun w h Y => PySem.W.kIn_of Y) ?F (fun _ _ a ns hl _ hS => ⟨a, ns, rfl, hS, hl, fun _ => rfl⟩) (fun _ _ _ _ _ h => PQ.cx_false h)
  case F =>
    intro w mg fa h KX G hmg
    refine' PQ.all_law PQ.law_true (PQ.all_mk KX G hmg ?a0 ?l0 ?c0 ?k0 ?a1 ?l1 ?c1 ?k1 ?a2 ?l2 ?c2 ?k2 ?a3 ?l3 ?c3 ?k3 ?a4 ?l4 ?c4 ?k4 ?a5 ?l5 ?c5 ?k5 ?a6 ?l6 ?c6 ?k6 ?a7 ?l7 ?c7 ?k7 ?a8 ?l8 ?c8 ?k8 ?a9 ?l9 ?c9 ?k9 ?a10 ?l10 ?c10 ?k10 ?a11 ?l11 ?c11 ?k11 ?a12 ?l12 ?c12 ?k12 ?a13 ?l13 ?c13 ?k13 ?a14 ?l14 ?c14 ?k14 ?a15 ?l15 ?c15 ?k15 ?a16 ?l16 ?c16 ?k16 ?a17 ?l17 ?c17 ?k17 ?a18 ?l18 ?c18 ?k18 ?a19 ?l19 ?c19 ?k19 ?a20 ?l20 ?c20 ?k20 ?a21 ?l21 ?c21 ?k21 ?a22 ?l22 ?c22 ?k22 ?a23 ?l23 ?c23 ?k23 ?a24 ?l24 ?c24 ?k24 ?a25 ?l25 ?c25 ?k25 ?a26 ?l26 ?c26 ?k26 ?a27 ?l27 ?c27 ?k27 ?a28 ?l28 ?c28 ?k28 ?a29 ?l29 ?c29 ?k29 ?a30 ?l30 ?c30 ?k30 ?aC_BadBoard ?xC_BadBoard ?kC_BadBoard ?bC_BadBoard ?tC_BadBoard ?aC_BadColumn ?xC_BadColumn ?kC_BadColumn ?bC_BadColumn ?tC_BadColumn ?aC_BadColumns ?xC_BadColumns ?kC_BadColumns ?bC_BadColumns ?tC_BadColumns ?aC_BadFault ?xC_BadFault ?kC_BadFault ?bC_BadFault ?tC_BadFault ?iC_BadBoard ?iC_BadColumn ?iC_BadColumns ?iC_BadFault ?s_BadBoard_BadBoard ?s_BadBoard_BadColumn ?s_BadBoard_BadColumns ?s_BadBoard_BadFault ?s_BadColumn_BadBoard ?s_BadColumn_BadColumn ?s_BadColumn_BadColumns ?s_BadColumn_BadFault ?s_BadColumns_BadBoard ?s_BadColumns_BadColumn ?s_BadColumns_BadColumns ?s_BadColumns_BadFault ?s_BadFault_BadBoard ?s_BadFault_BadColumn ?s_BadFault_BadColumns ?s_BadFault_BadFault ?z_abs ?z_all ?z_any ?z_bool ?z_enumerate ?z_int ?z_isinstance ?z_len ?z_list ?z_range ?z_set ?z_sorted ?z_str ?z_tuple ?g_MOST_SIDE ?g_SIGNS ?g_SWITCHES ?g_LINKED ?g_FORM ?h_FORM ?z_FORM ?v_FORM ?g_OTHERS ?h_OTHERS ?y_OTHERS ?r_OTHERS ?g_MOST_MARBLES ?g_STRAIGHT ?g_WAYS ?h_WAYS ?y_WAYS ?r_WAYS ?g_STOP ?g_CROSSING ?g_SLOPES ?g_FREE ?g_BENT ?g_STUCK)
    (case a0 => k_is); (case l0 => k_is); (case c0 => k_is); (case k0 => k_is); (case a1 => k_is); (case l1 => k_is); (case c1 => k_is); (case k1 => k_is); (case a2 => k_is); (case l2 => k_is); (case c2 => k_is); (case k2 => k_is); (case a3 => k_is); (case l3 => k_is); (case c3 => k_is); (case k3 => k_is); (case a4 => k_is); (case l4 => k_is); (case c4 => k_is); (case k4 => k_is); (case a5 => k_is); (case l5 => k_is); (case c5 => k_is); (case k5 => k_is); (case a6 => k_is); (case l6 => k_is); (case c6 => k_is); (case k6 => k_is); (case a7 => k_is); (case l7 => k_is); (case c7 => k_is); (case k7 => k_is); (case a8 => k_is); (case l8 => k_is); (case c8 => k_is); (case k8 => k_is); (case a9 => k_is); (case l9 => k_is); (case c9 => k_is); (case k9 => k_is); (case a10 => k_is); (case l10 => k_is); (case c10 => k_is); (case k10 => k_is); (case a11 => k_is); (case l11 => k_is); (case c11 => k_is); (case k11 => k_is); (case a12 => k_is); (case l12 => k_is); (case c12 => k_is); (case k12 => k_is); (case a13 => k_is); (case l13 => k_is); (case c13 => k_is); (case k13 => k_is); (case a14 => k_is); (case l14 => k_is); (case c14 => k_is); (case k14 => k_is); (case a15 => k_is); (case l15 => k_is); (case c15 => k_is); (case k15 => k_is); (case a16 => k_is); (case l16 => k_is); (case c16 => k_is); (case k16 => k_is); (case a17 => k_is); (case l17 => k_is); (case c17 => k_is); (case k17 => k_is); (case a18 => k_is); (case l18 => k_is); (case c18 => k_is); (case k18 => k_is); (case a19 => k_is); (case l19 => k_is); (case c19 => k_is); (case k19 => k_is); (case a20 => k_is); (case l20 => k_is); (case c20 => k_is); (case k20 => k_is); (case a21 => k_is); (case l21 => k_is); (case c21 => k_is); (case k21 => k_is); (case a22 => k_is); (case l22 => k_is); (case c22 => k_is); (case k22 => k_is); (case a23 => k_is); (case l23 => k_is); (case c23 => k_is); (case k23 => k_is); (case a24 => k_is); (case l24 => k_is); (case c24 => k_is); (case k24 => k_is); (case a25 => k_is); (case l25 => k_is); (case c25 => k_is); (case k25 => k_is); (case a26 => k_is); (case l26 => k_is); (case c26 => k_is); (case k26 => k_is); (case a27 => k_is); (case l27 => k_is); (case c27 => k_is); (case k27 => k_is); (case a28 => k_is); (case l28 => k_is); (case c28 => k_is); (case k28 => k_is); (case a29 => k_is); (case l29 => k_is); (case c29 => k_is); (case k29 => k_is); (case a30 => k_is); (case l30 => k_is); (case c30 => k_is); (case k30 => k_is); (case aC_BadBoard => k_is); (case xC_BadBoard => k_exc); (case kC_BadBoard => k_is); (case bC_BadBoard => k_is); (case tC_BadBoard => k_is); (case aC_BadColumn => k_is); (case xC_BadColumn => k_exc); (case kC_BadColumn => k_is); (case bC_BadColumn => k_is); (case tC_BadColumn => k_is); (case aC_BadColumns => k_is); (case xC_BadColumns => k_exc); (case kC_BadColumns => k_is); (case bC_BadColumns => k_is); (case tC_BadColumns => k_is); (case aC_BadFault => k_is); (case xC_BadFault => k_exc); (case kC_BadFault => k_is); (case bC_BadFault => k_is); (case tC_BadFault => k_is); (case iC_BadBoard => k_is); (case iC_BadColumn => k_is); (case iC_BadColumns => k_is); (case iC_BadFault => k_is); (case s_BadBoard_BadBoard => k_is); (case s_BadBoard_BadColumn => k_is); (case s_BadBoard_BadColumns => k_is); (case s_BadBoard_BadFault => k_is); (case s_BadColumn_BadBoard => k_is); (case s_BadColumn_BadColumn => k_is); (case s_BadColumn_BadColumns => k_is); (case s_BadColumn_BadFault => k_is); (case s_BadColumns_BadBoard => k_is); (case s_BadColumns_BadColumn => k_is); (case s_BadColumns_BadColumns => k_is); (case s_BadColumns_BadFault => k_is); (case s_BadFault_BadBoard => k_is); (case s_BadFault_BadColumn => k_is); (case s_BadFault_BadColumns => k_is); (case s_BadFault_BadFault => k_is); (case z_abs => k_is); (case z_all => k_is); (case z_any => k_is); (case z_bool => k_is); (case z_enumerate => k_is); (case z_int => k_is); (case z_isinstance => k_is); (case z_len => k_is); (case z_list => k_is); (case z_range => k_is); (case z_set => k_is); (case z_sorted => k_is); (case z_str => k_is); (case z_tuple => k_is); (case g_MOST_SIDE => k_is); (case g_SIGNS => k_is); (case g_SWITCHES => k_is); (case g_LINKED => k_is); (case g_FORM => k_is); (case h_FORM => k_is); (case z_FORM => exact (by decide +kernel)); (case v_FORM => exact (.cons ⟨_, rfl⟩ .nil)); (case g_OTHERS => k_is); (case h_OTHERS => k_is); (case y_OTHERS => exact (by decide +kernel)); (case r_OTHERS => exact (.cons (kv := (.str _)) (vv := (.str _)) rfl rfl ⟨_, rfl⟩ ⟨_, rfl⟩ (.str _) (.str _) (.cons (kv := (.str _)) (vv := (.str _)) rfl rfl ⟨_, rfl⟩ ⟨_, rfl⟩ (.str _) (.str _) (.cons (kv := (.str _)) (vv := (.str _)) rfl rfl ⟨_, rfl⟩ ⟨_, rfl⟩ (.str _) (.str _) (.cons (kv := (.str _)) (vv := (.str _)) rfl rfl ⟨_, rfl⟩ ⟨_, rfl⟩ (.str _) (.str _) .nil))))); (case g_MOST_MARBLES => k_is); (case g_STRAIGHT => k_is); (case g_WAYS => k_is); (case h_WAYS => k_is); (case y_WAYS => exact (by decide +kernel)); (case r_WAYS => exact (.cons (kv := (.str _)) (vv := (.int _)) rfl rfl ⟨_, rfl⟩ ⟨_, rfl⟩ (.str _) (.int _) (.cons (kv := (.str _)) (vv := (.int _)) rfl rfl ⟨_, rfl⟩ ⟨_, rfl⟩ (.str _) (.int _) (.cons (kv := (.str _)) (vv := (.int _)) rfl rfl ⟨_, rfl⟩ ⟨_, rfl⟩ (.str _) (.int _) (.cons (kv := (.str _)) (vv := (.int _)) rfl rfl ⟨_, rfl⟩ ⟨_, rfl⟩ (.str _) (.int _) (.cons (kv := (.str _)) (vv := (.int _)) rfl rfl ⟨_, rfl⟩ ⟨_, rfl⟩ (.str _) (.int _) (.cons (kv := (.str _)) (vv := (.int _)) rfl rfl ⟨_, rfl⟩ ⟨_, rfl⟩ (.str _) (.int _) (.cons (kv := (.str _)) (vv := (.int _)) rfl rfl ⟨_, rfl⟩ ⟨_, rfl⟩ (.str _) (.int _) .nil)))))))); (case g_STOP => k_is); (case g_CROSSING => k_is); (case g_SLOPES => k_is); (case g_FREE => k_is); (case g_BENT => k_is); (case g_STUCK => k_is)
