import PyProof.Rows.All
import Wide.All
import OpenK.AllK
import Wide.FinOn
import HandS.ForMost
import HandS.ForExc
import HandS.TupAny
import HandS.Deep
import HandS.IsInst
import HandS.Zip
import HandS.Rev
import HandS.RevRange
import HandS.Conv
import HandS.CallSlots
import HandS.TryMany
import HandS.TupLe
import HandS.Wide
import HandS.StrMore
import KE.KDictKeyed
import KE.SortData
import KE.DataEq
import HandS.TupMul
import KE.GoesMore
import KE.GoesEnum
import KE.KDictDisplayH
import HandS.Style
import HandS.TupLen
import HandS.ExcInit
import HandS.ExcField
import HandS.Nested
import KE.KExcSuper
import HandS.TupSets
import KE.KeyNested
import PySem.Challenge.RW_marblewright_k30_whole_built_trees
set_option Elab.async false
set_option linter.all false
set_option maxRecDepth 100000
set_option maxHeartbeats 4000000
set_option autoImplicit false
/-! PQ.1: pure data, slots, the relation of values to data -/
namespace PQ
open PySem PySem.Spec PyProof.Rows L2

abbrev D := PyData
abbrev St := L2.St

/-- an own exception: its class's name, its fields -/
structure Exc where
  cls : Str
  fld : List (Str × D)

inductive R (α : Type) where
  | ok (a : α)
  | exc (x : Exc)
  | stuck

namespace R
def bind {α β : Type} : R α → (α → R β) → R β
  | .ok a, f => f a
  | .exc x, _ => .exc x
  | .stuck, _ => .stuck
instance : Monad R where
  pure := .ok
  bind := R.bind
@[simp] theorem ok_bind {α β : Type} (a : α) (f : α → R β) : (R.ok a >>= f) = f a := id rfl
@[simp] theorem exc_bind {α β : Type} (x : Exc) (f : α → R β) : ((R.exc x : R α) >>= f) = .exc x := id rfl
@[simp] theorem stuck_bind {α β : Type} (f : α → R β) : ((R.stuck : R α) >>= f) = .stuck := id rfl
@[simp] theorem pure_eq {α : Type} (a : α) : (pure a : R α) = .ok a := id rfl
end R

/-- a slot: unset, frozen data, a list or dict of the slot's own -/
inductive Sl where
  | u
  | f (d : D)
  | o (d : D)
  | s (ns : List Int)
  | n (rows : List (List D))
  | x (a : Addr) (dd : Option Addr) (x : Exc)
abbrev Rho := List Sl

/-! ### keys -/
mutual
def keyD : D → Option NestedKey
  | .none => some .none
  | .bool b => some (.num (if b = true then 1 else 0))
  | .int i => some (.num i)
  | .str x => some (.text x)
  | .tuple xs => (keyDs xs).map .tup
  | .list _ => none
  | .dict _ => none
def keyDs : List D → Option (List NestedKey)
  | [] => some []
  | d :: ds => (keyD d).bind fun k => (keyDs ds).map fun ks => k :: ks
end

/-! ### frozen values -/
abbrev rawH (a : Addr) (o : Obj) : HO := .ext fun h => h.get? a = some o
def nodupK (kvs : List (D × D)) : Prop := (kvs.map fun p => keyD p.1).Nodup
mutual
inductive RD (w : World) (K : PySem.W.Frag) (Z : Hp) : V → D → Prop
  | non : RD w K Z .non .none
  | bl (b : Bool) : RD w K Z (.bl b) (.bool b)
  | int (i : Int) : RD w K Z (.int i) (.int i)
  | str (x : Str) : RD w K Z (.str x) (.str x)
  | lst {a : Addr} {xs : List V} {ds : List D} : Z a = some (.lst xs) → RDs w K Z xs ds → RD w K Z (.ref a) (.list ds)
  | tup {a : Addr} {xs : List V} {ds : List D} : SqT K Z a xs → RDs w K Z xs ds → RD w K Z (.ref a) (.tuple ds)
  | dct {a : Addr} {o : Obj} {es : Array DictEntry} {ep : Nat} {kvs : List (D × D)} : (Z a = some (rawH a o) ∨ K.lookup a = some o) → (a == sysModules) = false → o.ExactDict → o.data = .dict es ep →
      kvs.length ≤ sizeLine → nodupK kvs → RDE w K Z es.toList kvs → RD w K Z (.ref a) (.dict kvs)
inductive RDs (w : World) (K : PySem.W.Frag) (Z : Hp) : List V → List D → Prop
  | nil : RDs w K Z [] []
  | cons {v : V} {d : D} {vs : List V} {ds : List D} : RD w K Z v d → RDs w K Z vs ds → RDs w K Z (v :: vs) (d :: ds)
inductive RDE (w : World) (K : PySem.W.Frag) (Z : Hp) : List DictEntry → List (D × D) → Prop
  | nil : RDE w K Z [] []
  | cons {e : DictEntry} {kd vd : D} {kv vv : V} {nk : NestedKey} {l : List DictEntry} {kvs : List (D × D)} : keyD kd = some nk → e.hash = nk.hash w → RelV kv e.key → RelV vv e.val → RD w K Z kv kd → RD w K Z vv vd →
      RDE w K Z l kvs → RDE w K Z (e :: l) ((kd, vd) :: kvs)
end

section
variable {w : World} {K : PySem.W.Frag} {Z Z' H H' : Hp}
mutual
theorem RD.mono (s : Same Z Z') : ∀ {v : V} {d : D}, RD w K Z v d → RD w K Z' v d
  | _, _, .non => .non
  | _, _, .bl b => .bl b
  | _, _, .int i => .int i
  | _, _, .str x => .str x
  | _, _, .lst h r => .lst (s _ _ h) (RDs.mono s r)
  | _, _, .tup h r => .tup (by
      rcases h with (h | ⟨o, h⟩) | h
      · exact .inl (.inl (s _ _ h))
      · exact .inl (.inr ⟨o, s _ _ h⟩)
      · exact .inr h) (RDs.mono s r)
  | _, _,   .dct h1 h2 h3 h4 h5 h6 r => .dct (h1.imp (s _ _) id) h2 h3 h4 h5 h6 (RDE.mono s r)
theorem RDs.mono (s : Same Z Z') : ∀ {v : List V} {d : List D}, RDs w K Z v d → RDs w K Z' v d
  | _, _, .nil => .nil
  | _, _, .cons h t => .cons (RD.mono s h) (RDs.mono s t)
theorem RDE.mono (s : Same Z Z') : ∀ {l : List DictEntry} {kvs : List (D × D)}, RDE w K Z l kvs → RDE w K Z' l kvs
  | _, _, .nil => .nil
  | _, _, .cons h1 h2 h3 h4 r1 r2 t => .cons h1 h2 h3 h4 (RD.mono s r1) (RD.mono s r2) (RDE.mono s t)
end
theorem RDs.length : ∀ {vs : List V} {ds : List D}, RDs w K Z vs ds → vs.length = ds.length
  | _, _, .nil => rfl
  | _, _, .cons _ t => congrArg (· + 1) (RDs.length t)
theorem RDs.append : ∀ {vs vs' : List V} {ds ds' : List D}, RDs w K Z vs ds → RDs w K Z vs' ds' → RDs w K Z (vs ++ vs') (ds ++ ds')
  | _, _, _, _, .nil, h => h
  | _, _, _, _, .cons a t, h => .cons a (RDs.append t h)
theorem RDs.get : ∀ {vs : List V} {ds : List D} {i : Nat} {d : D}, RDs w K Z vs ds → ds[i]? = some d → ∃ v, vs[i]? = some v ∧ RD w K Z v d
  | _, _, _, _, .nil, e => by simp at e
  | _, _, 0, _, .cons a _, e => by simp at e; subst e; exact ⟨_, rfl, a⟩
  | _, _, i + 1, d, .cons _ t, e => by
    obtain ⟨v, h1, h2⟩ := RDs.get (i := i) (d := d) t (by simpa using e)
    exact ⟨v, by simpa using h1, h2⟩
theorem RDs.getV : ∀ {vs : List V} {ds : List D} {i : Nat} {v : V}, RDs w K Z vs ds → vs[i]? = some v → ∃ d, ds[i]? = some d ∧ RD w K Z v d
  | _, _, _, _, .nil, e => by simp at e
  | _, _, 0, _, .cons a _, e => by simp at e; subst e; exact ⟨_, rfl, a⟩
  | _, _, i + 1, d, .cons _ t, e => by
    obtain ⟨v, h1, h2⟩ := RDs.getV (i := i) (v := d) t (by simpa using e)
    exact ⟨v, by simpa using h1, h2⟩
theorem RDs.take : ∀ {vs : List V} {ds : List D} (n : Nat), RDs w K Z vs ds → RDs w K Z (vs.take n) (ds.take n)
  | _, _, 0, _ => .nil
  | _, _, _ + 1, .nil => .nil
  | _, _, n + 1, .cons a t => .cons a (RDs.take n t)
theorem RDs.drop : ∀ {vs : List V} {ds : List D} (n : Nat), RDs w K Z vs ds → RDs w K Z (vs.drop n) (ds.drop n)
  | _, _, 0, r => r
  | _, _, _ + 1, .nil => .nil
  | _, _, n + 1, .cons _ t => RDs.drop n t
theorem RDs.set {v : V} {d : D} (r : RD w K Z v d) : ∀ {vs : List V} {ds : List D} (i : Nat), RDs w K Z vs ds → RDs w K Z (vs.set i v) (ds.set i d)
  | _, _, _, .nil => .nil
  | _, _, 0, .cons _ t => .cons r t
  | _, _, i + 1, .cons q t => .cons q (RDs.set r i t)
theorem RDs.reverse : ∀ {vs : List V} {ds : List D}, RDs w K Z vs ds → RDs w K Z vs.reverse ds.reverse
  | _, _, .nil => .nil
  | _, _, .cons a t => by
    rw [List.reverse_cons, List.reverse_cons]
    exact (RDs.reverse t).append (.cons a .nil)
theorem RDs.rep {vs : List V} {ds : List D} (h : RDs w K Z vs ds) : ∀ k : Nat, RDs w K Z (List.replicate k vs).flatten (List.replicate k ds).flatten
  | 0 => .nil
  | k + 1 => by
    rw [List.replicate_succ, List.replicate_succ, List.flatten_cons, List.flatten_cons]
    exact h.append (RDs.rep h k)
theorem RDs.of_get {vs : List V} {ds : List D} (hl : vs.length = ds.length) (h : ∀ (i : Nat) v d, vs[i]? = some v → ds[i]? = some d → RD w K Z v d) : RDs w K Z vs ds := by
  induction vs generalizing ds with
  | nil =>
    cases ds with
    | nil => exact .nil
    | cons _ _ => simp at hl
  | cons v vs ih =>
    cases ds with
    | nil => simp at hl
    | cons d ds =>
      refine .cons (h 0 v d rfl rfl) (ih (by simpa using hl) fun i v' d' e1 e2 => h (i + 1) v' d' (by simpa using e1) (by simpa using e2))

/-! ### data without dicts, without lists -/
mutual
def noDict : D → Bool
  | .dict _ => false
  | .list xs => noDicts xs
  | .tuple xs => noDicts xs
  | _ => true
def noDicts : List D → Bool
  | [] => true
  | d :: ds => noDict d && noDicts ds
end
mutual
/-- tuples all the way -/
def noLst : D → Bool
  | .dict _ => false
  | .list _ => false
  | .tuple xs => noLsts xs
  | _ => true
def noLsts : List D → Bool
  | [] => true
  | d :: ds => noLst d && noLsts ds
end
mutual
theorem RD.dp : ∀ {v : V} {d : D}, RD w K Z v d → noDict d = true → Dp K Z v d
  | _, _, .non, _ => .non
  | _, _, .bl b, _ => .bl b
  | _, _, .int i, _ => .int i
  | _, _, .str x, _ => .str x
  | _, _, .lst h r, e => .lst (.inl (.inl h)) (RDs.dp r (by simpa [noDict] using e))
  | _, _, .tup h r, e => .tup h (RDs.dp r (by simpa [noDict] using e))
  | _, _, .dct _ _ _ _ _ _ _, e => by simp [noDict] at e
theorem RDs.dp : ∀ {v : List V} {d : List D}, RDs w K Z v d → noDicts d = true → DpAll K Z v d
  | _, _, .nil, _ => .nil
  | _, _, .cons h t, e => by
    simp only [noDicts, Bool.and_eq_true] at e
    exact .cons (RD.dp h e.1) (RDs.dp t e.2)
end

/-- the tuples of Z -/
def tupsOf (Z : Hp) : Hp := fun a => match Z a with
  | some (.tup xs) => some (.tup xs)
  | some (.frz o (.tup xs)) => some (.frz o (.tup xs))
  | _ => none
theorem tupsOf_le (Z : Hp) : Same (tupsOf Z) Z := fun a o e => by
  unfold tupsOf at e
  split at e <;> first | (cases e; assumption) | cases e
mutual
theorem RD.tups : ∀ {v : V} {d : D}, RD w K Z v d → noLst d = true → RD w K (tupsOf Z) v d
  | _, _, .non, _ => .non
  | _, _, .bl b, _ => .bl b
  | _, _, .int i, _ => .int i
  | _, _, .str x, _ => .str x
  | _, _, .lst h r, e => by simp [noLst] at e
  | _, _, .tup h r, e => .tup (by
      rcases h with (h | ⟨o, h⟩) | h
      · exact .inl (.inl (by unfold tupsOf; rw [h]))
      · exact .inl (.inr ⟨o, by unfold tupsOf; rw [h]⟩)
      · exact .inr h) (RDs.tups r (by simpa [noLst] using e))
  | _, _, .dct _ _ _ _ _ _ _, e => by simp [noLst] at e
theorem RDs.tups : ∀ {v : List V} {d : List D}, RDs w K Z v d → noLsts d = true → RDs w K (tupsOf Z) v d
  | _, _, .nil, _ => .nil
  | _, _, .cons h t, e => by
    simp only [noLsts, Bool.and_eq_true] at e
    exact .cons (RD.tups h e.1) (RDs.tups t e.2)
end
theorem RDE.tups : ∀ {l : List DictEntry} {kvs : List (D × D)}, RDE w K Z l kvs → noLsts (kvs.map (·.1)) = true → noLsts (kvs.map (·.2)) = true → RDE w K (tupsOf Z) l kvs
  | _, _, .nil, _, _ => .nil
  | _, _, .cons h1 h2 h3 h4 r1 r2 t, e, f => by
    simp only [List.map_cons, noLsts, Bool.and_eq_true] at e f
    exact .cons h1 h2 h3 h4 (r1.tups e.1) (r2.tups f.1) (RDE.tups t e.2 f.2)
end

/-! ### the frozen part grows, what is tracked stands -/
structure Ext (Z H Z' H' : Hp) : Prop where
  hh : Same H H'
  zz : Same Z Z'
  zh : Same Z' H'
  nw : ∀ a o, Z a = none → H a = some o → Z' a = none
theorem Ext.refl {Z H : Hp} (s : Same Z H) : Ext Z H Z H := ⟨Same.refl _, Same.refl _, s, fun _ _ h _ => h⟩
theorem Ext.trans {Z H Z1 H1 Z2 H2 : Hp} (a : Ext Z H Z1 H1) (b : Ext Z1 H1 Z2 H2) : Ext Z H Z2 H2 :=
  ⟨a.hh.trans b.hh, a.zz.trans b.zz, b.zh, fun x o h1 h2 => b.nw x o (a.nw x o h1 h2) (a.hh x o h2)⟩
theorem same_upd {H : Hp} {p : Addr} {o : HO} (h : H p = none) : Same H (upd H p o) := fun b x e => by
  rw [upd_ne (ne_of_none e h)]
  exact e
theorem same_upds {Z H : Hp} (s : Same Z H) {p : Addr} {o : HO} : Same (upd Z p o) (upd H p o) := fun b x e => by
  by_cases hb : b = p
  · subst hb; rw [upd_same] at e ⊢; exact e
  · rw [upd_ne hb] at e ⊢; exact s b x e
/-- a new object, frozen at once -/
theorem Ext.new {Z H : Hp} (s : Same Z H) {p : Addr} {o : HO} (hp : H p = none) : Ext Z H (upd Z p o) (upd H p o) := by
  have zp : Z p = none := by
    cases e : Z p with
    | none => rfl
    | some u => have := s p u e; rw [hp] at this; cases this
  exact ⟨same_upd hp, same_upd zp, same_upds s, fun a u h1 h2 => by rw [upd_ne (ne_of_none h2 hp)]; exact h1⟩
/-- a new object that is not frozen -/
theorem Ext.newO {Z H : Hp} (s : Same Z H) {p : Addr} {o : HO} (hp : H p = none) : Ext Z H Z (upd H p o) :=
  ⟨same_upd hp, Same.refl _, s.trans (same_upd hp), fun a u h1 _ => h1⟩

/-- a list (or dict) of one's own at a -/
inductive Own (w : World) (K : PySem.W.Frag) (Z H : Hp) (a : Addr) : D → Prop
  | lst {xs : List V} {ds : List D} : Z a = none → H a = some (.lst xs) → RDs w K Z xs ds → Own w K Z H a (.list ds)
  | dct {o : Obj} {es : Array DictEntry} {ep : Nat} {kvs : List (D × D)} : Z a = none → H a = some (rawH a o) → (a == sysModules) = false → o.ExactDict → o.data = .dict es ep →
      kvs.length ≤ sizeLine → nodupK kvs → RDE w K Z es.toList kvs → Own w K Z H a (.dict kvs)
theorem Own.there {w K Z H a d} (h : Own w K Z H a d) : ∃ o, H a = some o := by
  cases h with
  | lst _ h _ => exact ⟨_, h⟩
  | dct _ h _ _ _ _ _ _ => exact ⟨_, h⟩
theorem Own.zno {w K Z H a d} (h : Own w K Z H a d) : Z a = none := by
  cases h with
  | lst h _ _ => exact h
  | dct h _ _ _ _ _ _ _ => exact h
theorem Own.keep {w : World} {K : PySem.W.Frag} {Z H Z' H' : Hp} {a : Addr} {d : D} (s : Same Z Z') (hz : Z' a = none) (hh : ∀ o, H a = some o → H' a = some o) (h : Own w K Z H a d) : Own w K Z' H' a d := by
  cases h with
  | lst _ h r => exact .lst hz (hh _ h) (r.mono s)
  | dct _ h h2 h3 h4 h5 h6 r => exact .dct hz (hh _ h) h2 h3 h4 h5 h6 (r.mono s)
theorem Own.ext {w : World} {K : PySem.W.Frag} {Z H Z' H' : Hp} {a : Addr} {d : D} (x : Ext Z H Z' H') (h : Own w K Z H a d) : Own w K Z' H' a d := by
  obtain ⟨o, ho⟩ := h.there
  exact h.keep x.zz (x.nw a o h.zno ho) fun _ e => x.hh _ _ e
/-- it is frozen -/
theorem Own.freeze {w : World} {K : PySem.W.Frag} {Z H : Hp} {a : Addr} {d : D} (s : Same Z H) (h : Own w K Z H a d) : ∃ o, H a = some o ∧ RD w K (upd Z a o) (.ref a) d ∧ Same Z (upd Z a o) ∧ Same (upd Z a o) H := by
  have zs : ∀ o, Same Z (upd Z a o) := fun o => same_upd h.zno
  have sh : ∀ o, H a = some o → Same (upd Z a o) H := fun o ho b u e => by
    by_cases hb : b = a
    · subst hb; rw [upd_same] at e; cases e; exact ho
    · rw [upd_ne hb] at e; exact s b u e
  cases h with
  | lst hz h r => exact ⟨_, h, .lst upd_same (r.mono (zs _)), zs _, sh _ h⟩
  | dct hz h h2 h3 h4 h5 h6 r => exact ⟨_, h, .dct (.inl upd_same) h2 h3 h4 h5 h6 (r.mono (zs _)), zs _, sh _ h⟩

/-- lists of one's own in a list of one's own -/
structure NOwn (w : World) (K : PySem.W.Frag) (Z H : Hp) (a : Addr) (bs : List Addr) (rows : List (List D)) : Prop where
  za : Z a = none
  ha : H a = some (.lst (bs.map .ref))
  it : ∀ (i : Nat) (b : Addr), bs[i]? = some b → ∃ xs ds, rows[i]? = some ds ∧ Z b = none ∧ H b = some (.lst xs) ∧ RDs w K Z xs ds
  ln : bs.length = rows.length
  nd : (a :: bs).Nodup
theorem NOwn.mem {w K Z H a bs rows} (h : NOwn w K Z H a bs rows) {b : Addr} (hb : b ∈ a :: bs) : Z b = none ∧ ∃ xs, H b = some (.lst xs) := by
  rcases List.mem_cons.mp hb with rfl | hb
  · exact ⟨h.za, _, h.ha⟩
  · obtain ⟨i, hi⟩ := List.mem_iff_getElem?.mp hb
    obtain ⟨xs, ds, _, h2, h3, _⟩ := h.it i b hi
    exact ⟨h2, _, h3⟩
theorem NOwn.keep {w : World} {K : PySem.W.Frag} {Z H Z' H' : Hp} {a : Addr} {bs : List Addr} {rows : List (List D)} (s : Same Z Z') (h : NOwn w K Z H a bs rows) (hk : ∀ b ∈ a :: bs, Z' b = none ∧ ∀ o, H b = some o → H' b = some o) : NOwn w K Z' H' a bs rows := by
  refine ⟨(hk a List.mem_cons_self).1, (hk a List.mem_cons_self).2 _ h.ha, fun i b hb => ?_, h.ln, h.nd⟩
  obtain ⟨xs, ds, h1, h2, h3, h4⟩ := h.it i b hb
  have m := hk b (List.mem_cons_of_mem _ (List.mem_of_getElem? hb))
  exact ⟨xs, ds, h1, m.1, m.2 _ h3, h4.mono s⟩

/-- a slot's value -/
def SlRep (w : World) (K : PySem.W.Frag) (H0 Z H : Hp) (c : Option V) : Sl → Prop
  | .u => True
  | .f d => ∃ v, c = some v ∧ RD w K Z v d
  | .o d => ∃ a, c = some (.ref a) ∧ Own w K Z H a d ∧ H0 a = none
  | .s ns => ∃ a, c = some (.ref a) ∧ SqL K H0 a (ns.map V.int)
  | .n rows => ∃ a bs, c = some (.ref a) ∧ NOwn w K Z H a bs rows ∧ ∀ b ∈ a :: bs, H0 b = none
  | .x a dd x => c = some (.ref a) ∧ ∀ f d, x.fld = [(f, d)] → ∃ b v, dd = some b ∧ Z b = some (.xd [(f, v)]) ∧ RD w K Z v d
/-- the slot owns the object at b -/
def OwnsA (H : Hp) (c : Option V) : Sl → Addr → Prop
  | .o _, b => c = some (.ref b)
  | .n _, b => ∃ a, c = some (.ref a) ∧ (b = a ∨ ∃ xs, H a = some (.lst xs) ∧ V.ref b ∈ xs)
  | _, _ => False
section
variable {w : World} {K : PySem.W.Frag} {H0 Z H Z' H' : Hp} {c : Option V} {s : Sl} {b : Addr}
theorem NOwn.owns {a : Addr} {bs : List Addr} {rows rows' : List (List D)} (h : NOwn w K Z H a bs rows) : OwnsA H (some (.ref a)) (.n rows') b ↔ b ∈ a :: bs := by
  constructor
  · rintro ⟨a', e, q⟩
    cases e
    rcases q with rfl | ⟨xs, h1, h2⟩
    · exact List.mem_cons_self
    · rw [h.ha] at h1
      cases h1
      obtain ⟨b', hb, e⟩ := List.mem_map.mp h2
      cases e
      exact List.mem_cons_of_mem _ hb
  · intro hb
    refine ⟨a, rfl, ?_⟩
    rcases List.mem_cons.mp hb with rfl | hb
    · exact .inl rfl
    · exact .inr ⟨_, h.ha, List.mem_map_of_mem hb⟩
theorem SlRep.owned (h : SlRep w K H0 Z H c s) (o : OwnsA H c s b) : (∃ u, H b = some u) ∧ Z b = none ∧ H0 b = none := by
  cases s with
  | u => exact o.elim
  | f d => exact o.elim
  | s ns => exact o.elim
  | x a dd x => exact o.elim
  | o d =>
    obtain ⟨a, e, q, n⟩ := h
    have o : c = some (.ref b) := o
    rw [e] at o
    cases o
    exact ⟨q.there, q.zno, n⟩
  | n rows =>
    obtain ⟨a, bs, e, q, n⟩ := h
    subst e
    have hb := q.owns.mp o
    obtain ⟨h1, xs, h2⟩ := q.mem hb
    exact ⟨⟨_, h2⟩, h1, n b hb⟩
theorem SlRep.keepG (h : SlRep w K H0 Z H c s) (sz : Same Z Z') (k : ∀ b, OwnsA H c s b → Z' b = none ∧ ∀ o, H b = some o → H' b = some o) : SlRep w K H0 Z' H' c s := by
  cases s with
  | u => trivial
  | f d => obtain ⟨v, e, r⟩ := h; exact ⟨v, e, r.mono sz⟩
  | s ns => exact h
  | x a dd x =>
    refine ⟨h.1, fun f d e => ?_⟩
    obtain ⟨b, v, h1, h2, h3⟩ := h.2 f d e
    exact ⟨b, v, h1, sz _ _ h2, h3.mono sz⟩
  | o d =>
    obtain ⟨a, e, q, n⟩ := h
    have := k a e
    exact ⟨a, e, q.keep sz this.1 this.2, n⟩
  | n rows =>
    obtain ⟨a, bs, e, q, n⟩ := h
    subst e
    exact ⟨a, bs, rfl, q.keep sz fun b hb => k b (q.owns.mpr hb), n⟩
theorem SlRep.ownsBack (h : SlRep w K H0 Z H c s) (k : ∀ b, OwnsA H c s b → ∀ o, H b = some o → H' b = some o) (o : OwnsA H' c s b) : OwnsA H c s b := by
  cases s with
  | u => exact o
  | f d => exact o
  | s ns => exact o
  | x a dd x => exact o
  | o d => exact o
  | n rows =>
    obtain ⟨a, bs, e, q, n⟩ := h
    subst e
    obtain ⟨a', e, o⟩ := o
    cases e
    refine ⟨a, rfl, ?_⟩
    rcases o with rfl | ⟨xs, h1, h2⟩
    · exact .inl rfl
    · have := k a (q.owns.mpr List.mem_cons_self) _ q.ha
      rw [this] at h1
      cases h1
      exact .inr ⟨_, q.ha, h2⟩
end

/-- the slots σ in the heap H bear the data ρ; the entry was (Z0, H0) -/
structure Rep (w : World) (K : PySem.W.Frag) (Z0 H0 Z H : Hp) (σ : St) (ρ : Rho) : Prop where
  ext : Ext Z0 H0 Z H
  len : σ.length = ρ.length
  sl : ∀ (i : Nat) (c : Option V) (s : Sl), σ[i]? = some c → ρ[i]? = some s → SlRep w K H0 Z H c s
  dj : ∀ (i j : Nat) (c e : Option V) (s t : Sl) (b : Addr), i ≠ j → σ[i]? = some c → σ[j]? = some e → ρ[i]? = some s → ρ[j]? = some t → OwnsA H c s b → OwnsA H e t b → False

section
variable {w : World} {K : PySem.W.Frag} {Z0 H0 Z H Z' H' : Hp} {σ : St} {ρ : Rho}
theorem Rep.zh (r : Rep w K Z0 H0 Z H σ ρ) : Same Z H := r.ext.zh
/-- what a step of the heap does to the slots -/
theorem Rep.go (r : Rep w K Z0 H0 Z H σ ρ) (x : Ext Z0 H0 Z' H') (sz : Same Z Z') (k : ∀ (j : Nat) (c : Option V) (s : Sl) (b : Addr), σ[j]? = some c → ρ[j]? = some s → OwnsA H c s b → Z' b = none ∧ ∀ o, H b = some o → H' b = some o) : Rep w K Z0 H0 Z' H' σ ρ := by
  refine ⟨x, r.len, fun i c s h1 h2 => (r.sl i c s h1 h2).keepG sz fun b o => k i c s b h1 h2 o, fun i j c e s t b hij h1 h2 h3 h4 o1 o2 => ?_⟩
  exact r.dj i j c e s t b hij h1 h2 h3 h4 ((r.sl i c s h1 h3).ownsBack (fun b o => (k i c s b h1 h3 o).2) o1) ((r.sl j e t h2 h4).ownsBack (fun b o => (k j e t b h2 h4 o).2) o2)
theorem Rep.step (r : Rep w K Z0 H0 Z H σ ρ) (x : Ext Z H Z' H') : Rep w K Z0 H0 Z' H' σ ρ :=
  r.go (r.ext.trans x) x.zz fun j c s b h1 h2 o => by
    obtain ⟨⟨u, hu⟩, hz, _⟩ := (r.sl j c s h1 h2).owned o
    exact ⟨x.nw b u hz hu, fun o e => x.hh _ _ e⟩
/-- .. and slot i is set -/
theorem Rep.one (r : Rep w K Z0 H0 Z H σ ρ) (i : Nat) (c' : Option V) (s' : Sl) (x : Ext Z0 H0 Z' H') (sz : Same Z Z')
    (k : ∀ (j : Nat) (c : Option V) (s : Sl) (b : Addr), j ≠ i → σ[j]? = some c → ρ[j]? = some s → OwnsA H c s b → Z' b = none ∧ ∀ o, H b = some o → H' b = some o) (q : SlRep w K H0 Z' H' c' s')
    (d : ∀ (j : Nat) (c : Option V) (s : Sl) (b : Addr), j ≠ i → σ[j]? = some c → ρ[j]? = some s → OwnsA H c s b → ¬ OwnsA H' c' s' b) : Rep w K Z0 H0 Z' H' (σ.set i c') (ρ.set i s') := by
  have at' : ∀ {j : Nat} {c : Option V} {s : Sl}, (σ.set i c')[j]? = some c → (ρ.set i s')[j]? = some s → (j = i ∧ c = c' ∧ s = s') ∨ (j ≠ i ∧ σ[j]? = some c ∧ ρ[j]? = some s) := by
    intro j c s h1 h2
    by_cases hj : i = j
    · subst hj
      rw [List.getElem?_set] at h1 h2
      simp only [if_true] at h1 h2
      split at h1 <;> split at h2 <;> first | (cases h2; done) | (cases h1; done) | (cases h1; cases h2; exact .inl ⟨rfl, rfl, rfl⟩)
    · rw [List.getElem?_set_ne hj] at h1 h2
      exact .inr ⟨Ne.symm hj, h1, h2⟩
  have back : ∀ {j : Nat} {c : Option V} {s : Sl} {b : Addr}, j ≠ i → σ[j]? = some c → ρ[j]? = some s → OwnsA H' c s b → OwnsA H c s b := fun {j c s b} hj h1 h2 o =>
    (r.sl j c s h1 h2).ownsBack (fun b o => (k j c s b hj h1 h2 o).2) o
  refine ⟨x, by simpa using r.len, fun j c s h1 h2 => ?_, fun j l c e s t b hjl h1 h2 h3 h4 o1 o2 => ?_⟩
  · rcases at' h1 h2 with ⟨rfl, rfl, rfl⟩ | ⟨hj, h1, h2⟩
    · exact q
    · exact (r.sl j c s h1 h2).keepG sz fun b o => k j c s b hj h1 h2 o
  · rcases at' h1 h3 with ⟨rfl, rfl, rfl⟩ | ⟨hj, g1, g2⟩
    · rcases at' h2 h4 with ⟨rfl, rfl, rfl⟩ | ⟨hl, g3, g4⟩
      · exact hjl rfl
      · exact d l e t b hl g3 g4 (back hl g3 g4 o2) o1
    · rcases at' h2 h4 with ⟨rfl, rfl, rfl⟩ | ⟨hl, g3, g4⟩
      · exact d j c s b hj g1 g2 (back hj g1 g2 o1) o2
      · exact r.dj j l c e s t b hjl g1 g3 g2 g4 (back hj g1 g2 o1) (back hl g3 g4 o2)
theorem set_self {α : Type} (l : List α) (i : Nat) (d : α) : l.set i (l[i]?.getD d) = l := by
  apply List.ext_getElem?
  intro j
  rw [List.getElem?_set]
  split
  · rename_i hj
    subst hj
    split
    · rename_i h2; simp [h2]
    · rename_i h2; simp at h2; simp [h2]
  · rfl
theorem Rep.keepsO (r : Rep w K Z0 H0 Z H σ ρ) : ∀ (j : Nat) (c : Option V) (s : Sl) (b : Addr), σ[j]? = some c → ρ[j]? = some s → OwnsA H c s b → Z b = none ∧ ∀ o, H b = some o → H b = some o := fun j c s b h1 h2 o => ⟨((r.sl j c s h1 h2).owned o).2.1, fun _ e => e⟩
theorem Rep.getS (r : Rep w K Z0 H0 Z H σ ρ) {i : Nat} {s : Sl} (h : ρ[i]? = some s) : ∃ c, σ[i]? = some c ∧ SlRep w K H0 Z H c s := by
  have hi : i < ρ.length := (List.getElem?_eq_some_iff.mp h).1
  have hi' : i < σ.length := by rw [r.len]; exact hi
  exact ⟨σ[i], by simp [hi'], r.sl i _ s (by simp [hi']) h⟩
theorem Rep.getF (r : Rep w K Z0 H0 Z H σ ρ) {i : Nat} {d : D} (h : ρ[i]? = some (.f d)) : ∃ v, σ[i]? = some (some v) ∧ RD w K Z v d := by
  obtain ⟨c, h1, v, e, q⟩ := r.getS h
  exact ⟨v, by rw [h1, e], q⟩
theorem Rep.getO (r : Rep w K Z0 H0 Z H σ ρ) {i : Nat} {d : D} (h : ρ[i]? = some (.o d)) : ∃ a, σ[i]? = some (some (.ref a)) ∧ Own w K Z H a d ∧ H0 a = none := by
  obtain ⟨c, h1, a, e, q⟩ := r.getS h
  exact ⟨a, by rw [h1, e], q⟩
/-- a frozen value into slot i -/
theorem Rep.setF (r : Rep w K Z0 H0 Z H σ ρ) (i : Nat) {v : V} {d : D} (q : RD w K Z v d) : Rep w K Z0 H0 Z H (σ.set i (some v)) (ρ.set i (.f d)) :=
  r.one i _ _ r.ext (Same.refl _) (fun j c s b _ h1 h2 o => r.keepsO j c s b h1 h2 o) ⟨v, rfl, q⟩ fun _ _ _ _ _ _ _ _ o => o
/-- slot i is forgotten -/
theorem Rep.setU (r : Rep w K Z0 H0 Z H σ ρ) (i : Nat) (c0 : Option V) : Rep w K Z0 H0 Z H (σ.set i c0) (ρ.set i .u) :=
  r.one i _ _ r.ext (Same.refl _) (fun j c s b _ h1 h2 o => r.keepsO j c s b h1 h2 o) trivial fun _ _ _ _ _ _ _ _ o => o
theorem Rep.forget (r : Rep w K Z0 H0 Z H σ ρ) (i : Nat) : Rep w K Z0 H0 Z H σ (ρ.set i .u) := by
  have h := r.setU i (σ[i]?.getD none)
  rwa [set_self] at h
/-- an own object, new, into slot i -/
theorem Rep.setO (r : Rep w K Z0 H0 Z H σ ρ) (i : Nat) {a : Addr} {d : D} (q : Own w K Z H a d) (h0 : H0 a = none) (hn : ∀ (j : Nat) c s, j ≠ i → σ[j]? = some c → ρ[j]? = some s → ¬ OwnsA H c s a) : Rep w K Z0 H0 Z H (σ.set i (some (.ref a))) (ρ.set i (.o d)) :=
  r.one i _ _ r.ext (Same.refl _) (fun j c s b _ h1 h2 o => r.keepsO j c s b h1 h2 o) ⟨a, rfl, q, h0⟩ fun j c s b hj h1 h2 o e => by
    cases (show some (V.ref a) = some (.ref b) from e)
    exact hn j c s hj h1 h2 o
/-- lists of one's own in a list of one's own, new, into slot i -/
theorem Rep.setN (r : Rep w K Z0 H0 Z H σ ρ) (i : Nat) {a : Addr} {bs : List Addr} {rows : List (List D)} (q : NOwn w K Z H a bs rows) (h0 : ∀ b ∈ a :: bs, H0 b = none) (hn : ∀ (j : Nat) c s b, j ≠ i → b ∈ a :: bs → σ[j]? = some c → ρ[j]? = some s → ¬ OwnsA H c s b) : Rep w K Z0 H0 Z H (σ.set i (some (.ref a))) (ρ.set i (.n rows)) :=
  r.one i _ _ r.ext (Same.refl _) (fun j c s b _ h1 h2 o => r.keepsO j c s b h1 h2 o) ⟨a, bs, rfl, q, h0⟩ fun j c s b hj h1 h2 o e => hn j c s b hj (q.owns.mp e) h1 h2 o
/-- slot i's own object is frozen -/
theorem Rep.freeze (r : Rep w K Z0 H0 Z H σ ρ) {i : Nat} {d : D} (h : ρ[i]? = some (.o d)) : ∃ Z', Rep w K Z0 H0 Z' H σ (ρ.set i (.f d)) ∧ Same Z Z' := by
  obtain ⟨a, h1, q, h0⟩ := r.getO h
  obtain ⟨o, ho, q', s1, s2⟩ := q.freeze r.zh
  have h := r.one (Z' := upd Z a o) (H' := H) i (some (.ref a)) (.f d) ⟨r.ext.hh, r.ext.zz.trans s1, s2, fun b u hb1 hb2 => ?_⟩ s1 (fun j c s b hj e1 e2 ow => ?_) ⟨_, rfl, q'⟩ (fun _ _ _ _ _ _ _ _ o => o)
  · refine ⟨upd Z a o, ?_, s1⟩
    have e := set_self σ i none
    rw [h1] at e
    have e : σ.set i (some (.ref a)) = σ := e
    rwa [e] at h
  · rw [upd_ne (fun z => by rw [z, h0] at hb2; cases hb2)]
    exact r.ext.nw b u hb1 hb2
  · refine ⟨?_, fun _ e => e⟩
    have hb : b ≠ a := fun hb => by
      subst hb
      exact r.dj j i c _ s _ b hj e1 h1 e2 h ow rfl
    rw [upd_ne hb]
    exact (r.keepsO j c s b e1 e2 ow).1
/-- slot i's own object is changed (H a becomes o) -/
theorem Rep.mutate (r : Rep w K Z0 H0 Z H σ ρ) {i : Nat} {d d' : D} {a : Addr} {o : HO} (h : ρ[i]? = some (.o d)) (h1 : σ[i]? = some (some (.ref a))) (h0 : H0 a = none) (hz : Z a = none) (q : Own w K Z (upd H a o) a d') :
    Rep w K Z0 H0 Z (upd H a o) σ (ρ.set i (.o d')) := by
  have ne : ∀ (j : Nat) (c : Option V) (s : Sl) (b : Addr), j ≠ i → σ[j]? = some c → ρ[j]? = some s → OwnsA H c s b → b ≠ a := fun j c s b hj e1 e2 ow hb => by
    subst hb
    exact r.dj j i c _ s _ b hj e1 h1 e2 h ow rfl
  have h := r.one (Z' := Z) (H' := upd H a o) i (some (.ref a)) (.o d') ⟨fun b u e => ?_, r.ext.zz, fun b u e => ?_, r.ext.nw⟩ (Same.refl _) (fun j c s b hj e1 e2 ow => ⟨(r.keepsO j c s b e1 e2 ow).1, fun u e => ?_⟩) ⟨a, rfl, q, h0⟩
    (fun j c s b hj e1 e2 ow e => ?_)
  · have e := set_self σ i none
    rw [h1] at e
    have e : σ.set i (some (.ref a)) = σ := e
    rwa [e] at h
  · rw [upd_ne (fun z => by rw [z, h0] at e; cases e)]; exact r.ext.hh b u e
  · rw [upd_ne (fun z => by rw [z, hz] at e; cases e)]; exact r.zh b u e
  · rw [upd_ne (ne j c s b hj e1 e2 ow)]; exact e
  · cases (show some (V.ref a) = some (.ref b) from e)
    exact ne j c s a hj e1 e2 ow rfl
theorem Rep.getN (r : Rep w K Z0 H0 Z H σ ρ) {i : Nat} {rows : List (List D)} (h : ρ[i]? = some (.n rows)) : ∃ a bs, σ[i]? = some (some (.ref a)) ∧ NOwn w K Z H a bs rows ∧ ∀ b ∈ a :: bs, H0 b = none := by
  obtain ⟨c, h1, a, bs, e, q⟩ := r.getS h
  exact ⟨a, bs, by rw [h1, e], q⟩
/-- an inner list of slot i is changed -/
theorem Rep.mutateN (r : Rep w K Z0 H0 Z H σ ρ) {i k : Nat} {rows : List (List D)} {a b : Addr} {bs : List Addr} {xs : List V} {ds : List D} (h : ρ[i]? = some (.n rows)) (h1 : σ[i]? = some (some (.ref a))) (q : NOwn w K Z H a bs rows) (h0 : ∀ b ∈ a :: bs, H0 b = none)
    (hb : bs[k]? = some b) (rd : RDs w K Z xs ds) : Rep w K Z0 H0 Z (upd H b (.lst xs)) σ (ρ.set i (.n (rows.set k ds))) := by
  have hm : b ∈ a :: bs := List.mem_cons_of_mem _ (List.mem_of_getElem? hb)
  have ne : ∀ (j : Nat) (c : Option V) (s : Sl) (b' : Addr), j ≠ i → σ[j]? = some c → ρ[j]? = some s → OwnsA H c s b' → b' ≠ b := fun j c s b' hj e1 e2 ow hb' => by
    subst hb'
    exact r.dj j i c _ s _ b' hj e1 h1 e2 h ow (q.owns.mpr hm)
  have hab : a ≠ b := fun e => by
    have := q.nd
    rw [List.nodup_cons] at this
    exact this.1 (e ▸ List.mem_of_getElem? hb)
  have q' : NOwn w K Z (upd H b (.lst xs)) a bs (rows.set k ds) := by
    refine ⟨q.za, by rw [upd_ne hab]; exact q.ha, fun m b' hm' => ?_, by rw [List.length_set]; exact q.ln, q.nd⟩
    obtain ⟨xs', ds', g1, g2, g3, g4⟩ := q.it m b' hm'
    by_cases e : m = k
    · subst e
      rw [hb] at hm'
      cases hm'
      have hl : m < rows.length := (List.getElem?_eq_some_iff.mp g1).1
      exact ⟨xs, ds, by simp [hl], g2, upd_same, rd⟩
    · have hne : b' ≠ b := fun z => by
        subst z
        have hn := q.nd
        rw [List.nodup_cons] at hn
        obtain ⟨l1, e1⟩ := List.getElem?_eq_some_iff.mp hm'
        obtain ⟨l2, e2⟩ := List.getElem?_eq_some_iff.mp hb
        exact e ((List.getElem_inj hn.2).mp (e1.trans e2.symm))
      exact ⟨xs', ds', by rw [List.getElem?_set_ne (Ne.symm e)]; exact g1, g2, by rw [upd_ne hne]; exact g3, g4⟩
  have h := r.one (Z' := Z) (H' := upd H b (.lst xs)) i (some (.ref a)) (.n (rows.set k ds)) ⟨fun b' u e => ?_, r.ext.zz, fun b' u e => ?_, r.ext.nw⟩ (Same.refl _) (fun j c s b' hj e1 e2 ow => ⟨(r.keepsO j c s b' e1 e2 ow).1, fun u e => ?_⟩) ⟨a, bs, rfl, q', h0⟩
    (fun j c s b' hj e1 e2 ow e => ?_)
  · have e := set_self σ i none
    rw [h1] at e
    have e : σ.set i (some (.ref a)) = σ := e
    rwa [e] at h
  · rw [upd_ne (fun z => by rw [z, h0 b hm] at e; cases e)]; exact r.ext.hh b' u e
  · rw [upd_ne (fun z => by rw [z, (q.mem hm).1] at e; cases e)]; exact r.zh b' u e
  · rw [upd_ne (ne j c s b' hj e1 e2 ow)]; exact e
  · exact r.dj j i c _ s _ b' hj e1 h1 e2 (by assumption) ow (q.owns.mpr (q'.owns.mp e))
end
end PQ

/-! PQ.2: what an expression computes -/
namespace PQ
open PySem PySem.Spec PyProof.Rows L2

/-! ### the judgements of the layer, at a point -/
def PEat (X : Cx) (e : Expr) (σ : St) (H : Hp) (Q : VK) : Prop := ∀ (pins : List (Addr × Obj)) (s : Shared), Inv X pins σ H s → wpAny (model X.prog X.w) X.A (eval e X.env) (EP X pins σ Q) X.xe s
theorem pe_at {X : Cx} {e : Expr} : PE X e (PEat X e) := ⟨fun pins s σ H Q I h => h pins s I⟩
theorem toAt {X : Cx} {e : Expr} {t : TE} {σ : St} {H : Hp} {Q : VK} (h : PE X e t) (q : t σ H Q) : PEat X e σ H Q := fun pins s I => h.run pins s σ H Q I q
def PTat (X : Cx) (e : Expr) (σ : St) (H : Hp) (Q : Bool → Hp → Prop) : Prop := ∀ (pins : List (Addr × Obj)) (s : Shared), Inv X pins σ H s → wpAny (model X.prog X.w) X.A (isTrue e X.env (eval e X.env)) (TP X pins σ Q) X.xe s
theorem pt_at {X : Cx} {e : Expr} : PT X e (PTat X e) := ⟨fun pins s σ H Q I h => h pins s I⟩
theorem toAtT {X : Cx} {e : Expr} {t : TT} {σ : St} {H : Hp} {Q : Bool → Hp → Prop} (h : PT X e t) (q : t σ H Q) : PTat X e σ H Q := fun pins s I => h.run pins s σ H Q I q
def PWat (X : Cx) (e : Expr) (σ : St) (H : Hp) (Q : Bool → Hp → Prop) : Prop := ∀ (whole : Sem Value) (pins : List (Addr × Obj)) (s : Shared), Inv X pins σ H s → wpAny (model X.prog X.w) X.A (isTrue e X.env whole) (TP X pins σ Q) X.xe s
theorem pw_at {X : Cx} {e : Expr} : PW X e (PWat X e) := ⟨fun whole pins s σ H Q I h => h whole pins s I⟩
theorem toAtW {X : Cx} {e : Expr} {t : TT} {σ : St} {H : Hp} {Q : Bool → Hp → Prop} (h : PW X e t) (q : t σ H Q) : PWat X e σ H Q := fun whole pins s I => h.run whole pins s σ H Q I q
def PAat (X : Cx) (es : List Expr) (σ : St) (H : Hp) (Q : List V → Hp → Prop) : Prop := ∀ (pos : Pos) (pins : List (Addr × Obj)) (s : Shared), Inv X pins σ H s → wpAny (model X.prog X.w) X.A (spliced (backTo pos (starEach es X.env))) (AP X pins σ Q) X.xe s
theorem pa_at {X : Cx} {es : List Expr} : PA X es (PAat X es) := ⟨fun pos pins s σ H Q I h => h pos pins s I⟩
theorem toAtA {X : Cx} {es : List Expr} {t : TA} {σ : St} {H : Hp} {Q : List V → Hp → Prop} (h : PA X es t) (q : t σ H Q) : PAat X es σ H Q := fun pos pins s I => h.run pos pins s σ H Q I q

/-! ### exceptions -/
inductive RX (w : World) (K : PySem.W.Frag) (mg : Str → Option Value) (Z : Hp) : Exc → Value → Option Addr → Prop
  | bare {n : Str} {C : Addr} : mg n = some (.ref C) → RX w K mg Z ⟨n, []⟩ (.ref C) none
  | fld {n f : Str} {C a : Addr} {v : V} {d : D} : mg n = some (.ref C) → Z a = some (.xd [(f, v)]) → RD w K Z v d → RX w K mg Z ⟨n, [(f, d)]⟩ (.ref C) (some a)
theorem RX.mono {w : World} {K : PySem.W.Frag} {mg : Str → Option Value} {Z Z' : Hp} (s : Same Z Z') {x : Exc} {c : Value} {d : Option Addr} (h : RX w K mg Z x c d) : RX w K mg Z' x c d := by
  cases h with
  | bare h => exact .bare h
  | fld h1 h2 h3 => exact .fld h1 (s _ _ h2) (h3.mono s)

def XPost (X : Cx) (W : WX) (Z H : Hp) (σ : St) (x : Exc) : Prop := ∀ cls dx Z' H', Ext Z H Z' H' → RX X.w X.K X.mg Z' x cls dx → W cls dx σ H'
theorem XPost.step {X : Cx} {W : WX} {Z H Z' H' : Hp} {σ : St} {x : Exc} (h : XPost X W Z H σ x) (e : Ext Z H Z' H') : XPost X W Z' H' σ x := fun cls dx Z2 H2 e2 r => h cls dx Z2 H2 (e.trans e2) r
/-- what is to hold of a result -/
def Post {α : Type} (X : Cx) (W : WX) (Z H : Hp) (σ : St) (r : R α) (P : α → Prop) : Prop :=
  match r with
  | .ok a => P a
  | .exc x => XPost X W Z H σ x
  | .stuck => False
/-- a result without exceptions -/
def Post0 {α : Type} (r : R α) (P : α → Prop) : Prop :=
  match r with
  | .ok a => P a
  | _ => False
theorem Post.mono {α : Type} {X : Cx} {W : WX} {Z H : Hp} {σ : St} {r : R α} {P P' : α → Prop} (h : Post X W Z H σ r P) (hp : ∀ a, P a → P' a) : Post X W Z H σ r P' := by
  cases r with
  | ok a => exact hp a h
  | exc x => exact h
  | stuck => exact h
theorem Post.bind {α β : Type} {X : Cx} {W : WX} {Z H : Hp} {σ : St} {r : R α} {k : α → R β} {P : β → Prop} (h : Post X W Z H σ (r >>= k) P) : Post X W Z H σ r fun a => Post X W Z H σ (k a) P := by
  cases r with
  | ok a => exact h
  | exc x => exact h
  | stuck => exact h
theorem Post.step {α : Type} {X : Cx} {W : WX} {Z H Z' H' : Hp} {σ : St} {r : R α} {P : α → Prop} (h : Post X W Z H σ r P) (e : Ext Z H Z' H') : Post X W Z' H' σ r P := by
  cases r with
  | ok a => exact h
  | exc x => exact XPost.step h e
  | stuck => exact h

abbrev EV := Rho → R D
abbrev EA := Rho → R (List D)
abbrev ET := Rho → R Bool
/-- what is asked of a value's end -/
abbrev QV (X : Cx) (Z H : Hp) (Q : VK) (d : D) : Prop := ∀ v Z' H', Ext Z H Z' H' → RD X.w X.K Z' v d → Q v H'
abbrev QB (Z H : Hp) (Q : Bool → Hp → Prop) (b : Bool) : Prop := ∀ Z' H', Ext Z H Z' H' → Q b H'

/-- the expression e computes F, frozen -/
structure Ev (X : Cx) (W : WX) (e : Expr) (F : EV) : Prop where
  go : ∀ {Z0 H0 Z H : Hp} {σ : St} {ρ : Rho} {Q : VK}, Rep X.w X.K Z0 H0 Z H σ ρ → Post X W Z H σ (F ρ) (QV X Z H Q) → PEat X e σ H Q
/-- .. a new list or dict -/
structure Eo (X : Cx) (W : WX) (e : Expr) (F : EV) : Prop where
  go : ∀ {Z0 H0 Z H : Hp} {σ : St} {ρ : Rho} {Q : VK}, Rep X.w X.K Z0 H0 Z H σ ρ → Post X W Z H σ (F ρ) (fun d => ∀ a Z' H', Ext Z H Z' H' → H a = none → Own X.w X.K Z' H' a d → Q (.ref a) H') → PEat X e σ H Q
structure Et (X : Cx) (W : WX) (e : Expr) (F : ET) : Prop where
  go : ∀ {Z0 H0 Z H : Hp} {σ : St} {ρ : Rho} {Q : Bool → Hp → Prop}, Rep X.w X.K Z0 H0 Z H σ ρ → Post X W Z H σ (F ρ) (QB Z H Q) → PTat X e σ H Q
structure Ew (X : Cx) (W : WX) (e : Expr) (F : ET) : Prop where
  go : ∀ {Z0 H0 Z H : Hp} {σ : St} {ρ : Rho} {Q : Bool → Hp → Prop}, Rep X.w X.K Z0 H0 Z H σ ρ → Post X W Z H σ (F ρ) (QB Z H Q) → PWat X e σ H Q
structure Ea (X : Cx) (W : WX) (es : List Expr) (F : EA) : Prop where
  go : ∀ {Z0 H0 Z H : Hp} {σ : St} {ρ : Rho} {Q : List V → Hp → Prop}, Rep X.w X.K Z0 H0 Z H σ ρ → Post X W Z H σ (F ρ) (fun ds => ∀ vs Z' H', Ext Z H Z' H' → RDs X.w X.K Z' vs ds → Q vs H') → PAat X es σ H Q
  len : ∀ ρ ds, F ρ = .ok ds → ds.length = es.length
  se : ∀ a as, es = a :: as → starEach (a :: as) X.env = (false, eval a X.env) :: starEach as X.env
  pl : ∀ pos, (backTo pos (starEach es X.env)).any (·.1) = false
  plt : ∀ a as, es = a :: as → ∀ pos, (backTo pos (starEach as X.env)).any (·.1) = false

section
variable {X : Cx} {W : WX} {a b c e : Expr} {es : List Expr} {pos : Pos} {F G : EV} {Fs : EA}

theorem Ew.et {F' : ET} (h : Ew X W e F') : Et X W e F' := ⟨fun r q pins s I => h.go r q _ pins s I⟩

/-- a new list is frozen -/
theorem Own.rd {w : World} {K : PySem.W.Frag} {Z H Z' H' : Hp} {a : Addr} {d : D} (x : Ext Z H Z' H') (hn : H a = none) (h : Own w K Z' H' a d) : ∃ Z'', Ext Z H Z'' H' ∧ RD w K Z'' (.ref a) d := by
  obtain ⟨o, ho, r, s1, s2⟩ := h.freeze x.zh
  refine ⟨upd Z' a o, ⟨x.hh, x.zz.trans s1, s2, fun b u h1 h2 => ?_⟩, r⟩
  rw [upd_ne (fun z => by rw [z, hn] at h2; cases h2)]
  exact x.nw b u h1 h2
theorem Eo.ev (h : Eo X W e F) : Ev X W e F := by
  refine ⟨fun r q => h.go r (q.mono fun d hd a Z' H' x hn ho => ?_)⟩
  obtain ⟨Z'', x', rd⟩ := Own.rd x hn ho
  exact hd _ _ _ x' rd

/-! ### names, constants -/
def eNone : EV := fun _ => .ok .none
def eBool (b : Bool) : EV := fun _ => .ok (.bool b)
def eInt (i : Int) : EV := fun _ => .ok (.int i)
def eStr (x : Str) : EV := fun _ => .ok (.str x)
def eD (d : D) : EV := fun _ => .ok d
def eVar (i : Nat) : EV := fun ρ => match ρ[i]? with
  | some (.f d) => .ok d
  | _ => .stuck
theorem ev_none {j p} : Ev X W (.Constant .none j p) eNone := ⟨fun r q => toAt pe_non (q _ _ _ (Ext.refl r.zh) .non)⟩
theorem ev_bool {b j p} : Ev X W (.Constant (.bool b) j p) (eBool b) := ⟨fun r q => toAt pe_bl (q _ _ _ (Ext.refl r.zh) (.bl b))⟩
theorem ev_int {i j p} : Ev X W (.Constant (.int i) j p) (eInt i) := ⟨fun r q => toAt pe_int (q _ _ _ (Ext.refl r.zh) (.int i))⟩
theorem ev_str {x j p} : Ev X W (.Constant (.str x) j p) (eStr x) := ⟨fun r q => toAt pe_str (q _ _ _ (Ext.refl r.zh) (.str x))⟩
theorem ev_var (i : Nat) {x : Str} (hN : X.N[i]? = some x := by rfl) (hv : Vis X.env.scope x := by first | exact Or.inl rfl | exact Or.inr (Or.inl rfl) | exact Or.inr (Or.inr rfl)) (hd : (x == ("__debug__" : Str)) = false := by decide)
    (hcd : (x == ("__classdict__" : Str)) = false := by decide) : Ev X W (.Name x pos) (eVar i) := by
  refine ⟨fun {Z0 H0 Z H σ ρ Q} r q => ?_⟩
  unfold eVar at q
  cases h : ρ[i]? with
  | none => rw [h] at q; exact q.elim
  | some s =>
    rw [h] at q
    cases s with
    | f d =>
      obtain ⟨v, hv', rd⟩ := r.getF h
      exact toAt (pe_var hN hv hd hcd) ⟨v, hv', q _ _ _ (Ext.refl r.zh) rd⟩
    | u => exact q.elim
    | o d => exact q.elim
    | n d => exact q.elim
    | x a b c => exact q.elim
    | s d => exact q.elim
/-- a module's constant -/
def GC (w : World) (K : PySem.W.Frag) (mg : Str → Option Value) (x : Str) (d : D) : Prop := ∃ v u, mg x = some u ∧ RelV v u ∧ RD w K (fun _ => none) v d
theorem ev_glob {x : Str} {d : D} (g : GC X.w X.K X.mg x d) (hg : Gl X x := by rfl) (hd : (x == ("__debug__" : Str)) = false := by decide) : Ev X W (.Name x pos) (eD d) := by
  obtain ⟨v, u, h1, h2, h3⟩ := g
  exact ⟨fun {Z0 H0 Z H σ ρ Q} r q => toAt (pe_glob hg h1 h2 hd) (q _ _ _ (Ext.refl r.zh) (h3.mono fun _ _ e => by cases e))⟩

/-! ### lists of expressions -/
def eNil : EA := fun _ => .ok []
def eCons (F : EV) (Fs : EA) : EA := fun ρ => F ρ >>= fun d => Fs ρ >>= fun ds => .ok (d :: ds)
theorem ea_nil : Ea X W [] eNil := ⟨fun r q => toAtA pa_nil (q _ _ _ (Ext.refl r.zh) .nil), fun ρ ds h => (by cases h; rfl), fun _ _ e => (by cases e), fun _ => rfl, fun _ _ e => (by cases e)⟩
theorem ea_cons (ha : Ev X W e F) (hs : Ea X W es Fs) (he : starEach (e :: es) X.env = (false, eval e X.env) :: starEach es X.env := by rfl) : Ea X W (e :: es) (eCons F Fs) := by
  refine ⟨fun {Z0 H0 Z H σ ρ Q} r q => ?_, fun ρ ds h => ?_, fun a as e => (by cases e; exact he), fun pos => ?_, fun a as e => (by cases e; exact hs.pl)⟩
  rotate_left 2
  · rw [he]
    show (false || (backTo pos (starEach es X.env)).any (·.1)) = false
    rw [hs.pl]; rfl
  · refine toAtA (pa_cons pe_at pa_at he) ?_
    refine ha.go r (q.bind.mono fun d hd v Z1 H1 x1 r1 => ?_)
    refine hs.go (r.step x1) ((hd.bind.step x1).mono fun ds hds vs Z2 H2 x2 r2 => ?_)
    exact hds _ _ _ (x1.trans x2) (.cons (r1.mono x2.zz) r2)
  · unfold eCons at h
    cases e1 : F ρ with
    | ok d =>
      rw [e1] at h
      cases e2 : Fs ρ with
      | ok r =>
        rw [R.ok_bind, e2, R.ok_bind] at h
        cases h
        rw [List.length_cons, List.length_cons, hs.len ρ r e2]
      | exc x => rw [R.ok_bind, e2] at h; cases h
      | stuck => rw [R.ok_bind, e2] at h; cases h
    | exc x => rw [e1] at h; cases h
    | stuck => rw [e1] at h; cases h
def eTup (Fs : EA) : EV := fun ρ => Fs ρ >>= fun ds => .ok (.tuple ds)
def eLst (Fs : EA) : EV := fun ρ => Fs ρ >>= fun ds => .ok (.list ds)
theorem Post.eq {α : Type} {W : WX} {Z H : Hp} {σ : St} {r : R α} {P : α → Prop} (h : Post X W Z H σ r P) : Post X W Z H σ r fun a => r = .ok a ∧ P a := by
  cases r with
  | ok a => exact ⟨rfl, h⟩
  | exc x => exact h
  | stuck => exact h
theorem ev_tup {k : Nat} (h : Ea X W es Fs) (hl : es.length ≤ 1000 := by decide) : Ev X W (.Tuple es k pos) (eTup Fs) := by
  refine ⟨fun {Z0 H0 Z H σ ρ Q} r q => toAt (pe_tup pa_at) ?_⟩
  refine h.go r (q.bind.eq.mono fun ds hds vs Z1 H1 x1 r1 => ?_)
  have hl' := h.len ρ ds hds.1
  refine ⟨by rw [r1.length, hl']; exact Nat.le_of_lt (small1000 hl), fun p hp => ?_⟩
  exact hds.2 _ _ _ (x1.trans (Ext.new x1.zh hp)) (.tup (.inl (.inl upd_same)) (r1.mono (Ext.new (o := .tup vs) x1.zh hp).zz))
theorem eo_lst (h : Ea X W es Fs) (hl : es.length ≤ 1000 := by decide) : Eo X W (.List es pos) (eLst Fs) := by
  refine ⟨fun {Z0 H0 Z H σ ρ Q} r q => toAt (pe_lst pa_at) ?_⟩
  refine h.go r (q.bind.eq.mono fun ds hds vs Z1 H1 x1 r1 => ?_)
  have hl' := h.len ρ ds hds.1
  refine ⟨by rw [r1.length, hl']; exact Nat.le_of_lt (small1000 hl), fun p hp => ?_⟩
  have zp : Z1 p = none := by
    cases e : Z1 p with
    | none => rfl
    | some u => have := x1.zh p u e; rw [hp] at this; cases this
  refine hds.2 _ _ _ (x1.trans (Ext.newO x1.zh hp)) ?_ (.lst zp upd_same r1)
  cases e : H p with
  | none => rfl
  | some u => have := x1.hh p u e; rw [hp] at this; cases this

/-! ### operators -/
/-- the rule r of an operator computes f -/
def OpD (X : Cx) (r : R2) (f : D → D → R D) : Prop := ∀ (Z H : Hp) (x y : V) (dx dy : D) (Q : VK), Same Z H → RD X.w X.K Z x dx → RD X.w X.K Z y dy → Post0 (f dx dy) (QV X Z H Q) → r x y H Q
def UnD (X : Cx) (r : V → Hp → VK → Prop) (f : D → R D) : Prop := ∀ (Z H : Hp) (x : V) (dx : D) (Q : VK), Same Z H → RD X.w X.K Z x dx → Post0 (f dx) (QV X Z H Q) → r x H Q
def CaD (X : Cx) (r : List V → Hp → VK → Prop) (f : List D → R D) : Prop := ∀ (Z H : Hp) (xs : List V) (ds : List D) (Q : VK), Same Z H → RDs X.w X.K Z xs ds → Post0 (f ds) (QV X Z H Q) → r xs H Q
/-- f never raises -/
def R.clean {α : Type} : R α → Prop
  | .exc _ => False
  | _ => True
def e1 (f : D → R D) (F : EV) : EV := fun ρ => F ρ >>= f
def e2 (f : D → D → R D) (F G : EV) : EV := fun ρ => F ρ >>= fun x => G ρ >>= fun y => f x y
def eA (f : List D → R D) (Fs : EA) : EV := fun ρ => Fs ρ >>= f
theorem Post.to0 {α : Type} {W : WX} {Z H : Hp} {σ : St} {r : R α} {P : α → Prop} (c : r.clean) (h : Post X W Z H σ r P) : Post0 r P := by
  cases r with
  | ok a => exact h
  | exc x => exact c.elim
  | stuck => exact h
theorem ev_2 {r : R2} {f : D → D → R D} (h : ∀ {ta tb : TE}, PE X a ta → PE X b tb → PE X e (tOp r ta tb)) (ho : OpD X r f) (cl : ∀ x y, (f x y).clean) (ha : Ev X W a F) (hb : Ev X W b G) : Ev X W e (e2 f F G) := by
  refine ⟨fun {Z0 H0 Z H σ ρ Q} r q => toAt (h pe_at pe_at) ?_⟩
  refine ha.go r (q.bind.mono fun d hd v Z1 H1 x1 r1 => ?_)
  refine hb.go (r.step x1) ((hd.bind.step x1).mono fun d2 hd2 v2 Z2 H2 x2 r2 => ?_)
  refine ho Z2 H2 v v2 d d2 Q x2.zh (r1.mono x2.zz) r2 ?_
  have p := hd2.to0 (cl d d2)
  cases hf : f d d2 with
  | ok z => rw [hf] at p; exact fun v3 Z3 H3 x3 r3 => p v3 Z3 H3 ((x1.trans x2).trans x3) r3
  | exc x => rw [hf] at p; exact p.elim
  | stuck => rw [hf] at p; exact p.elim
theorem ev_1 {r : V → Hp → VK → Prop} {f : D → R D} (h : ∀ {ta : TE}, PE X a ta → PE X e (tUn r ta)) (ho : UnD X r f) (cl : ∀ x, (f x).clean) (ha : Ev X W a F) : Ev X W e (e1 f F) := by
  refine ⟨fun {Z0 H0 Z H σ ρ Q} r q => toAt (h pe_at) ?_⟩
  refine ha.go r (q.bind.mono fun d hd v Z1 H1 x1 r1 => ?_)
  refine ho Z1 H1 v d Q x1.zh r1 ?_
  have p := hd.to0 (cl d)
  cases hf : f d with
  | ok z => rw [hf] at p; exact fun v3 Z3 H3 x3 r3 => p v3 Z3 H3 (x1.trans x3) r3
  | exc x => rw [hf] at p; exact p.elim
  | stuck => rw [hf] at p; exact p.elim
theorem ev_A {r : List V → Hp → VK → Prop} {f : List D → R D} (h : ∀ {ta : TA}, PA X es ta → PE X e (tCB r ta)) (ho : CaD X r f) (cl : ∀ x, (f x).clean) (ha : Ea X W es Fs) : Ev X W e (eA f Fs) := by
  refine ⟨fun {Z0 H0 Z H σ ρ Q} r q => toAt (h pa_at) ?_⟩
  refine ha.go r (q.bind.mono fun d hd v Z1 H1 x1 r1 => ?_)
  refine ho Z1 H1 v d Q x1.zh r1 ?_
  have p := hd.to0 (cl d)
  cases hf : f d with
  | ok z => rw [hf] at p; exact fun v3 Z3 H3 x3 r3 => p v3 Z3 H3 (x1.trans x3) r3
  | exc x => rw [hf] at p; exact p.elim
  | stuck => rw [hf] at p; exact p.elim
end
end PQ

/-! PQ.3: operators -/
namespace PQ
open PySem PySem.Spec PyProof.Rows L2
open PySem.W (alike alikeAll dataLt rcLt_alike)

/-- ok if c -/
def guardR {α : Type} (c : Bool) (a : α) : R α := if c = true then .ok a else .stuck
theorem guardR_true {α : Type} (a : α) : guardR true a = .ok a := rfl
theorem guardR_of {α : Type} {c : Bool} (h : c = true) (a : α) : guardR c a = .ok a := by unfold guardR; rw [if_pos h]
theorem clean_guard {α : Type} (c : Bool) (a : α) : (guardR c a).clean := by unfold guardR; split <;> trivial
theorem Post0.guard {α : Type} {c : Bool} {a : α} {P : α → Prop} (h : Post0 (guardR c a) P) : c = true ∧ P a := by
  unfold guardR at h
  split at h
  · exact ⟨by assumption, h⟩
  · exact h.elim

def fits (n : Nat) : Bool := decide (n ≤ 16777216)
theorem fits_le {n : Nat} (h : fits n = true) : n ≤ sizeLine := by
  have := of_decide_eq_true h
  rw [sizeLine_eq]; exact this

def dAdd : D → D → R D
  | .int i, .int j => .ok (.int (i + j))
  | .str a, .str b => guardR (fits (a.length + b.length)) (.str (a ++ b))
  | .tuple xs, .tuple ys => guardR (fits (xs.length + ys.length)) (.tuple (xs ++ ys))
  | .list xs, .list ys => guardR (fits (xs.length + ys.length)) (.list (xs ++ ys))
  | _, _ => .stuck
def dSub : D → D → R D
  | .int i, .int j => .ok (.int (i - j))
  | _, _ => .stuck
def mulOk (i j : Int) : Bool := decide (i.natAbs < 18446744073709551616) || decide (j.natAbs < 18446744073709551616)
def repOk (n : Nat) (k : Int) : Bool := decide (-1000000 ≤ k) && decide (k ≤ 1000000) && fits (n * k.toNat)
def dMul : D → D → R D
  | .int i, .int j => guardR (mulOk i j) (.int (i * j))
  | .str a, .int k => guardR (decide (0 ≤ k) && repOk a.length k) (.str ⟨(List.replicate k.toNat a.cps.toList).flatten.toArray⟩)
  | .list xs, .int k => guardR (repOk xs.length k) (.list (List.replicate k.toNat xs).flatten)
  | .tuple xs, .int k => guardR (!xs.isEmpty && decide (2 ≤ k) && decide (k ≤ 1000) && decide (xs.length ≤ 1000)) (.tuple (List.replicate k.toNat xs).flatten)
  | _, _ => .stuck
def divOk (j : Int) : Bool := decide (0 < j) && decide (j < 1073741824)
def dFdiv : D → D → R D
  | .int i, .int j => guardR (divOk j) (.int (i / j))
  | _, _ => .stuck
def dMod : D → D → R D
  | .int i, .int j => guardR (decide (0 < j)) (.int (i % j))
  | _, _ => .stuck
def dPow : D → D → R D
  | .int i, .int j => guardR (decide (0 ≤ j) && decide (j ≤ 1000000) && decide (i.natAbs < 18446744073709551616)) (.int (i ^ j.toNat))
  | _, _ => .stuck
def dShl : D → D → R D
  | .int i, .int j => guardR (decide (0 ≤ j) && decide (j ≤ 1000000) && decide (i.natAbs < 18446744073709551616)) (.int (i * 2 ^ j.toNat))
  | _, _ => .stuck
def dNeg : D → R D
  | .int i => .ok (.int (-i))
  | _ => .stuck

section
variable {X : Cx} {W : WX} {a b c e : Expr} {es : List Expr} {pos : Pos} {F G : EV} {Fs : EA}
theorem cl_add (x y : D) : (dAdd x y).clean := by cases x <;> cases y <;> first | trivial | exact clean_guard _ _
theorem cl_sub (x y : D) : (dSub x y).clean := by cases x <;> cases y <;> trivial
theorem cl_mul (x y : D) : (dMul x y).clean := by cases x <;> cases y <;> first | trivial | exact clean_guard _ _
theorem cl_fdiv (x y : D) : (dFdiv x y).clean := by cases x <;> cases y <;> first | trivial | exact clean_guard _ _
theorem cl_mod (x y : D) : (dMod x y).clean := by cases x <;> cases y <;> first | trivial | exact clean_guard _ _
theorem cl_pow (x y : D) : (dPow x y).clean := by cases x <;> cases y <;> first | trivial | exact clean_guard _ _
theorem cl_shl (x y : D) : (dShl x y).clean := by cases x <;> cases y <;> first | trivial | exact clean_guard _ _
theorem cl_neg (x : D) : (dNeg x).clean := by cases x <;> trivial

theorem SqT.mono {K : PySem.W.Frag} {Z H : Hp} (s : Same Z H) {p : Addr} {xs : List V} (h : SqT K Z p xs) : SqT K H p xs := by
  rcases h with (h | ⟨o, h⟩) | h
  · exact .inl (.inl (s _ _ h))
  · exact .inl (.inr ⟨o, s _ _ h⟩)
  · exact .inr h
theorem zfree {Z H : Hp} (s : Same Z H) {p : Addr} (h : H p = none) : Z p = none := by
  cases e : Z p with
  | none => rfl
  | some u => have := s p u e; rw [h] at this; cases this

abbrev rAddAll (K : PySem.W.Frag) : R2 := fun x y H Q => (fun x y H Q => rI0 (fun i j => .int (i + j)) x y H Q ∨ (∃ i j, x = .str i ∧ y = .str j ∧ i.length + j.length ≤ sizeLine ∧ Q (.str (i ++ j)) H)) x y H Q ∨ (rCatA K x y H Q ∨ rCat x y H Q)
theorem op_addAll : OpR X (binaryOp .Add) (rAddAll X.K) := (op_add.or op_add_str).or (op_catA.or op_cat)
theorem od_add : OpD X (rAddAll X.K) dAdd := by
  intro Z H x y dx dy Q s rx ry h
  cases rx <;> cases ry <;> try exact h.elim
  · exact .inl (.inl ⟨_, _, rfl, rfl, h _ _ _ (Ext.refl s) (.int _)⟩)
  · obtain ⟨hc, h⟩ := h.guard
    exact .inl (.inr ⟨_, _, rfl, rfl, fits_le hc, h _ _ _ (Ext.refl s) (.str _)⟩)
  · rename_i a1 xs ds h1 r1 a2 ys es h2 r2
    obtain ⟨hc, h⟩ := h.guard
    refine .inr (.inr ⟨a1, a2, xs, ys, rfl, rfl, s _ _ h1, s _ _ h2, by rw [r1.length, r2.length]; exact fits_le hc, fun p hp => ?_⟩)
    have x := Ext.new (o := .lst (xs ++ ys)) s hp
    exact h _ _ _ x (.lst upd_same ((r1.append r2).mono x.zz))
  · rename_i a1 xs ds h1 r1 a2 ys es h2 r2
    obtain ⟨hc, h⟩ := h.guard
    refine .inr (.inl ⟨a1, a2, xs, ys, rfl, rfl, SqT.mono s h1, SqT.mono s h2, by rw [r1.length, r2.length]; exact fits_le hc, fun e => ?_, fun _ e => ?_, fun _ _ p hp => ?_⟩)
    · subst e
      cases r1
      exact h _ _ _ (Ext.refl s) (.tup h2 r2)
    · subst e
      cases r2
      refine h _ _ _ (Ext.refl s) (.tup h1 ?_)
      rw [List.append_nil]; exact r1
    · have x := Ext.new (o := .tup (xs ++ ys)) s hp
      exact h _ _ _ x (.tup (.inl (.inl upd_same)) ((r1.append r2).mono x.zz))
theorem ev_add (ha : Ev X W a F) (hb : Ev X W b G) : Ev X W (.BinOp a .Add b pos) (e2 dAdd F G) := ev_2 (pe_op op_addAll) od_add cl_add ha hb
theorem od_sub : OpD X (rI0 fun i j => .int (i - j)) dSub := by
  intro Z H x y dx dy Q s rx ry h
  cases rx <;> cases ry <;> try exact h.elim
  exact ⟨_, _, rfl, rfl, h _ _ _ (Ext.refl s) (.int _)⟩
theorem ev_sub (ha : Ev X W a F) (hb : Ev X W b G) : Ev X W (.BinOp a .Sub b pos) (e2 dSub F G) := ev_2 (pe_op op_sub) od_sub cl_sub ha hb

/-- str * int -/
def rMulS : R2 := fun x y H Q => ∃ z k, x = .str z ∧ y = .int k ∧ 0 ≤ k ∧ k ≤ 1000000 ∧ z.length * k.toNat ≤ sizeLine ∧ Q (.str ⟨(List.replicate k.toNat z.cps.toList).flatten.toArray⟩) H
theorem str_ext {x y : Str} (h : x.cps.toList = y.cps.toList) : x = y := Str.ext' (Array.toList_inj.mp h)
theorem foldl_app (x : Array Nat) : ∀ (n : Nat) (acc : Array Nat), (List.foldl (fun x1 x2 => x1 ++ x2) acc (List.replicate n x)).toList = acc.toList ++ (List.replicate n x.toList).flatten
  | 0, acc => by simp
  | n + 1, acc => by
    rw [List.replicate_succ, List.foldl_cons, foldl_app x n, List.replicate_succ, List.flatten_cons, ← List.append_assoc]
    congr 1
    simp
theorem txt_mul (z : Str) (k : Int) (h0 : 0 ≤ k) : Txt.mul z k = ⟨(List.replicate k.toNat z.cps.toList).flatten.toArray⟩ := by
  apply str_ext
  unfold Txt.mul
  split
  · have : k = 0 := by omega
    subst this; rfl
  · split
    · rename_i h
      rw [Bool.or_eq_true, beq_iff_eq, beq_iff_eq] at h
      rcases h with h | h
      · subst h; simp
      · have : z.cps.toList = [] := by
          apply List.eq_nil_of_length_eq_zero
          rw [Array.length_toList]; exact h
        rw [this]; simp
    · show (List.foldl (fun x1 x2 => x1 ++ x2) #[] (List.replicate k.toNat z.cps)).toList = _
      rw [foldl_app]; simp
theorem op_mulS : OpR X (binaryOp .Mult) rMulS := by
  intro pins s σ H x y v u Q I rx ry h
  obtain ⟨z, k, rfl, rfl, h0, h1, hz, q⟩ := h
  obtain ⟨t, rfl⟩ := rx
  obtain ⟨t', rfl⟩ := ry
  rw [← txt_mul z k h0] at q
  refine SB.mul ⟨?_, fun h1' _ => ?_, fun h1' _ => ?_⟩ fun t2 k2 => ⟨.str _, H, I.tok _, ⟨_, rfl⟩, q⟩
  · rw [Bool.or_eq_false_iff]
    exact ⟨decide_eq_false (by omega), decide_eq_false (by omega)⟩
  · have hl : (z.length : Int) ≤ 16777216 := by
      have hk : 1 ≤ k.toNat := by omega
      have : z.length * 1 ≤ z.length * k.toNat := Nat.mul_le_mul_left _ hk
      have := sizeLine_eq
      omega
    have h2 : (16777216 : Int) ≤ (2 ^ 63 - 1) / k := by
      apply Int.le_ediv_of_mul_le (by omega)
      have : 16777216 * k ≤ 16777216 * 1000000 := by omega
      omega
    omega
  · unfold Builtin.Str.tooLong
    exact decide_eq_false (by omega)

theorem rep_fits {n : Nat} {k : Int} (h : repOk n k = true) : -1000000 ≤ k ∧ k ≤ 1000000 ∧ n * k.toNat ≤ sizeLine := by
  unfold repOk at h
  rw [Bool.and_eq_true, Bool.and_eq_true] at h
  exact ⟨of_decide_eq_true h.1.1, of_decide_eq_true h.1.2, fits_le h.2⟩
abbrev rMulAll (K : PySem.W.Frag) : R2 := fun x y H Q => (fun x y H Q => rI CMul (fun i j => .int (i * j)) x y H Q ∨ rMulS x y H Q) x y H Q ∨ (rRep x y H Q ∨ rRepT K x y H Q)
theorem op_mulAll : OpR X (binaryOp .Mult) (rMulAll X.K) := (op_mul.or op_mulS).or (op_rep.or op_repT)
theorem od_mul : OpD X (rMulAll X.K) dMul := by
  intro Z H x y dx dy Q s rx ry h
  cases rx <;> cases ry <;> try exact h.elim
  · obtain ⟨hc, h⟩ := h.guard
    refine .inl (.inl ⟨_, _, rfl, rfl, ?_, h _ _ _ (Ext.refl s) (.int _)⟩)
    unfold mulOk at hc
    rw [Bool.or_eq_true, decide_eq_true_eq, decide_eq_true_eq] at hc
    unfold CMul
    omega
  · obtain ⟨hc, h⟩ := h.guard
    rw [Bool.and_eq_true, decide_eq_true_eq] at hc
    obtain ⟨h1, h2, h3⟩ := rep_fits hc.2
    exact .inl (.inr ⟨_, _, rfl, rfl, hc.1, h2, h3, h _ _ _ (Ext.refl s) (.str _)⟩)
  · rename_i a1 xs ds h1 r1 k
    obtain ⟨hc, h⟩ := h.guard
    obtain ⟨c1, c2, c3⟩ := rep_fits hc
    refine .inr (.inl ⟨a1, k, xs, rfl, rfl, s _ _ h1, by omega, by omega, by rw [r1.length]; exact c3, fun p hp => ?_⟩)
    have x := Ext.new (o := .lst (List.replicate k.toNat xs).flatten) s hp
    exact h _ _ _ x (.lst upd_same ((r1.rep _).mono x.zz))
  · rename_i a1 xs ds h1 r1 k
    obtain ⟨hc, h⟩ := h.guard
    simp only [Bool.and_eq_true, decide_eq_true_eq, Bool.not_eq_true'] at hc
    refine .inr (.inr ⟨a1, k, xs, rfl, rfl, SqT.mono s h1, ?_, hc.1.1.2, hc.1.2, by rw [r1.length]; exact hc.2, fun p hp => ?_⟩)
    · intro e
      subst e
      cases r1
      simp at hc
    · have x := Ext.new (o := .tup (List.replicate k.toNat xs).flatten) s hp
      exact h _ _ _ x (.tup (.inl (.inl upd_same)) ((r1.rep _).mono x.zz))
theorem ev_mul (ha : Ev X W a F) (hb : Ev X W b G) : Ev X W (.BinOp a .Mult b pos) (e2 dMul F G) := ev_2 (pe_op op_mulAll) od_mul cl_mul ha hb
theorem od_fdiv : OpD X (rI CDiv fun i j => .int (i / j)) dFdiv := by
  intro Z H x y dx dy Q s rx ry h
  cases rx <;> cases ry <;> try exact h.elim
  obtain ⟨hc, h⟩ := h.guard
  unfold divOk at hc
  rw [Bool.and_eq_true, decide_eq_true_eq, decide_eq_true_eq] at hc
  exact ⟨_, _, rfl, rfl, hc, h _ _ _ (Ext.refl s) (.int _)⟩
theorem ev_fdiv (ha : Ev X W a F) (hb : Ev X W b G) : Ev X W (.BinOp a .FloorDiv b pos) (e2 dFdiv F G) := ev_2 (pe_op op_fdiv) od_fdiv cl_fdiv ha hb
theorem od_mod : OpD X (rI (fun _ j => 0 < j) fun i j => .int (i % j)) dMod := by
  intro Z H x y dx dy Q s rx ry h
  cases rx <;> cases ry <;> try exact h.elim
  obtain ⟨hc, h⟩ := h.guard
  exact ⟨_, _, rfl, rfl, of_decide_eq_true hc, h _ _ _ (Ext.refl s) (.int _)⟩
theorem ev_mod (ha : Ev X W a F) (hb : Ev X W b G) : Ev X W (.BinOp a .Mod b pos) (e2 dMod F G) := ev_2 (pe_op op_mod) od_mod cl_mod ha hb
theorem od_pow : OpD X (rI CPow fun i j => .int (i ^ j.toNat)) dPow := by
  intro Z H x y dx dy Q s rx ry h
  cases rx <;> cases ry <;> try exact h.elim
  obtain ⟨hc, h⟩ := h.guard
  simp only [Bool.and_eq_true, decide_eq_true_eq] at hc
  exact ⟨_, _, rfl, rfl, ⟨hc.1.1, hc.1.2, by omega⟩, h _ _ _ (Ext.refl s) (.int _)⟩
theorem ev_pow (ha : Ev X W a F) (hb : Ev X W b G) : Ev X W (.BinOp a .Pow b pos) (e2 dPow F G) := ev_2 (pe_op op_pow) od_pow cl_pow ha hb
theorem od_shl : OpD X (rI CPow fun i j => .int (i * 2 ^ j.toNat)) dShl := by
  intro Z H x y dx dy Q s rx ry h
  cases rx <;> cases ry <;> try exact h.elim
  obtain ⟨hc, h⟩ := h.guard
  simp only [Bool.and_eq_true, decide_eq_true_eq] at hc
  exact ⟨_, _, rfl, rfl, ⟨hc.1.1, hc.1.2, by omega⟩, h _ _ _ (Ext.refl s) (.int _)⟩
theorem ev_shl (ha : Ev X W a F) (hb : Ev X W b G) : Ev X W (.BinOp a .LShift b pos) (e2 dShl F G) := ev_2 (pe_op op_shl) od_shl cl_shl ha hb
theorem ud_neg : UnD X (rU fun i => .int (-i)) dNeg := by
  intro Z H x dx Q s rx h
  cases rx <;> try exact h.elim
  exact ⟨_, rfl, h _ _ _ (Ext.refl s) (.int _)⟩
theorem ev_neg (ha : Ev X W a F) : Ev X W (.UnaryOp .USub a pos) (e1 dNeg F) := ev_1 (pe_un un_neg) ud_neg cl_neg ha

/-! ### comparisons -/
def eqOk (x y : D) : Bool := x.plain && y.plain && decide (min x.depth y.depth ≤ 60)
def dEq (x y : D) : R D := guardR (eqOk x y) (.bool (PyData.eqv x y))
def dNe (x y : D) : R D := guardR (eqOk x y) (.bool (!PyData.eqv x y))
theorem cl_eq (x y : D) : (dEq x y).clean := clean_guard _ _
theorem cl_ne (x y : D) : (dNe x y).clean := clean_guard _ _
mutual
theorem plain_noDict : ∀ d : D, d.plain = true → noDict d = true
  | .none, _ => rfl
  | .bool _, _ => rfl
  | .int _, _ => rfl
  | .str _, _ => rfl
  | .list xs, h => by
    rw [noDict]; exact plains_noDict xs (by simpa [PyData.plain] using h)
  | .tuple xs, h => by
    rw [noDict]; exact plains_noDict xs (by simpa [PyData.plain] using h)
  | .dict _, h => by simp [PyData.plain] at h
theorem plains_noDict : ∀ d : List D, PyData.plainAll d = true → noDicts d = true
  | [], _ => rfl
  | d :: ds, h => by
    simp only [PyData.plainAll, Bool.and_eq_true] at h
    simp only [noDicts, plain_noDict d h.1, plains_noDict ds h.2, Bool.and_self]
end
theorem Dp.mono2 {K : PySem.W.Frag} {Z H : Hp} {w : World} (s : Same Z H) {v : V} {d : D} (h : RD w K Z v d) (p : d.plain = true) : Dp K H v d := (h.mono s).dp (plain_noDict d p)
def rEqP (K : PySem.W.Frag) (neg : Bool) : R2 := fun x y H Q => ∃ d e, Dp K H x d ∧ Dp K H y e ∧ eqOk d e = true ∧ Q (.bl (if neg then !PyData.eqv d e else PyData.eqv d e)) H
theorem op_eqP (hu : X.A.units + 64 < cLine) : OpR X (compareOp .Eq) (rEqP X.K false) := by
  intro pins s σ H x y v u Q I rx ry h
  obtain ⟨d, e, hd, he, sd, q⟩ := h
  obtain ⟨as, r1⟩ := Dp.reads I d x v hd rx
  obtain ⟨bs, r2⟩ := Dp.reads I e y u he ry
  simp only [eqOk, Bool.and_eq_true, decide_eq_true_eq] at sd
  exact SeqAt.eq_plain r1 r2 sd.1.1 sd.1.2 (by omega) ⟨.bl _, H, I, rfl, q⟩
theorem op_neP (hu : X.A.units + 64 < cLine) : OpR X (compareOp .NotEq) (rEqP X.K true) := by
  intro pins s σ H x y v u Q I rx ry h
  obtain ⟨d, e, hd, he, sd, q⟩ := h
  obtain ⟨as, r1⟩ := Dp.reads I d x v hd rx
  obtain ⟨bs, r2⟩ := Dp.reads I e y u he ry
  simp only [eqOk, Bool.and_eq_true, decide_eq_true_eq] at sd
  exact SeqAt.ne_plain r1 r2 sd.1.1 sd.1.2 (by omega) ⟨.bl _, H, I, rfl, q⟩
theorem eqOk_plain {x y : D} (h : eqOk x y = true) : x.plain = true ∧ y.plain = true := by
  simp only [eqOk, Bool.and_eq_true] at h
  exact h.1
theorem od_eq : OpD X (rEqP X.K false) dEq := by
  intro Z H x y dx dy Q s rx ry h
  obtain ⟨hc, h⟩ := h.guard
  obtain ⟨p1, p2⟩ := eqOk_plain hc
  exact ⟨dx, dy, Dp.mono2 s rx p1, Dp.mono2 s ry p2, hc, h _ _ _ (Ext.refl s) (.bl _)⟩
theorem od_ne : OpD X (rEqP X.K true) dNe := by
  intro Z H x y dx dy Q s rx ry h
  obtain ⟨hc, h⟩ := h.guard
  obtain ⟨p1, p2⟩ := eqOk_plain hc
  exact ⟨dx, dy, Dp.mono2 s rx p1, Dp.mono2 s ry p2, hc, h _ _ _ (Ext.refl s) (.bl _)⟩
/-- there is room for what an operator does -/
abbrev HasRoom (X : Cx) : Prop := X.A.units + 100 < cLine
theorem ev_eq (hu : HasRoom X) (ha : Ev X W a F) (hb : Ev X W b G) : Ev X W (.Compare a [.Eq] [b] pos) (e2 dEq F G) :=
  ev_2 (fun p q => pe_cmpR (op_eqP (by have : X.A.units + 100 < cLine := hu; omega)) p q (nomark _)) od_eq cl_eq ha hb
theorem ev_ne (hu : HasRoom X) (ha : Ev X W a F) (hb : Ev X W b G) : Ev X W (.Compare a [.NotEq] [b] pos) (e2 dNe F G) :=
  ev_2 (fun p q => pe_cmpR (op_neP (by have : X.A.units + 100 < cLine := hu; omega)) p q (nomark _)) od_ne cl_ne ha hb

/-- order: ints; texts, tuples by < -/
def ltOk (x y : D) : Bool := alike x y && x.plain && y.plain && (match x with | .none => false | _ => true) && decide (min x.depth y.depth ≤ 60)
def dLt (x y : D) : R D := match x, y with
  | .int i, .int j => .ok (.bool (decide (i < j)))
  | x, y => guardR (ltOk x y) (.bool (dataLt x y))
def dLe : D → D → R D
  | .int i, .int j => .ok (.bool (decide (i ≤ j)))
  | _, _ => .stuck
def dGt : D → D → R D
  | .int i, .int j => .ok (.bool (decide (j < i)))
  | _, _ => .stuck
def dGe : D → D → R D
  | .int i, .int j => .ok (.bool (decide (j ≤ i)))
  | _, _ => .stuck
theorem cl_lt (x y : D) : (dLt x y).clean := by unfold dLt; split <;> first | trivial | exact clean_guard _ _
theorem cl_le (x y : D) : (dLe x y).clean := by cases x <;> cases y <;> trivial
theorem cl_gt (x y : D) : (dGt x y).clean := by cases x <;> cases y <;> trivial
theorem cl_ge (x y : D) : (dGe x y).clean := by cases x <;> cases y <;> trivial
def rLtP (K : PySem.W.Frag) : R2 := fun x y H Q => ∃ d e, Dp K H x d ∧ Dp K H y e ∧ ltOk d e = true ∧ Q (.bl (dataLt d e)) H
theorem op_ltP (hu : X.A.units + 64 < cLine) : OpR X (compareOp .Lt) (rLtP X.K) := by
  intro pins s σ H x y v u Q I rx ry h
  obtain ⟨d, e, hd, he, sd, q⟩ := h
  obtain ⟨as, r1⟩ := Dp.reads I d x v hd rx
  obtain ⟨bs, r2⟩ := Dp.reads I e y u he ry
  simp only [ltOk, Bool.and_eq_true, decide_eq_true_eq] at sd
  exact rcLt_alike d e X.A s v u as bs r1 r2 sd.1.1.1.1 (fun z => by rw [z] at sd; simp at sd) (by omega) X.prog X.w X.xe _ ⟨.bl _, H, I, rfl, q⟩
abbrev rLtAll (K : PySem.W.Frag) : R2 := fun x y H Q => rI0 (fun i j => .bl (decide (i < j))) x y H Q ∨ rLtP K x y H Q
theorem od_lt : OpD X (rLtAll X.K) dLt := by
  intro Z H x y dx dy Q s rx ry h
  unfold dLt at h
  split at h
  · cases rx; cases ry
    exact .inl ⟨_, _, rfl, rfl, h _ _ _ (Ext.refl s) (.bl _)⟩
  · obtain ⟨hc, h⟩ := h.guard
    have hc' := hc
    simp only [ltOk, Bool.and_eq_true] at hc'
    exact .inr ⟨dx, dy, Dp.mono2 s rx hc'.1.1.1.2, Dp.mono2 s ry hc'.1.1.2, hc, h _ _ _ (Ext.refl s) (.bl _)⟩
theorem ev_lt (hu : HasRoom X) (ha : Ev X W a F) (hb : Ev X W b G) : Ev X W (.Compare a [.Lt] [b] pos) (e2 dLt F G) :=
  ev_2 (fun p q => pe_cmpR (op_lt.or (op_ltP (by have : X.A.units + 100 < cLine := hu; omega))) p q (nomark _)) od_lt cl_lt ha hb
theorem od_le : OpD X (rI0 fun i j => .bl (decide (i ≤ j))) dLe := by
  intro Z H x y dx dy Q s rx ry h
  cases rx <;> cases ry <;> try exact h.elim
  exact ⟨_, _, rfl, rfl, h _ _ _ (Ext.refl s) (.bl _)⟩
theorem od_gt : OpD X (rI0 fun i j => .bl (decide (j < i))) dGt := by
  intro Z H x y dx dy Q s rx ry h
  cases rx <;> cases ry <;> try exact h.elim
  exact ⟨_, _, rfl, rfl, h _ _ _ (Ext.refl s) (.bl _)⟩
theorem od_ge : OpD X (rI0 fun i j => .bl (decide (j ≤ i))) dGe := by
  intro Z H x y dx dy Q s rx ry h
  cases rx <;> cases ry <;> try exact h.elim
  exact ⟨_, _, rfl, rfl, h _ _ _ (Ext.refl s) (.bl _)⟩
theorem ev_le (ha : Ev X W a F) (hb : Ev X W b G) : Ev X W (.Compare a [.LtE] [b] pos) (e2 dLe F G) := ev_2 (fun p q => pe_cmpR op_le p q (nomark _)) od_le cl_le ha hb
theorem ev_gt (ha : Ev X W a F) (hb : Ev X W b G) : Ev X W (.Compare a [.Gt] [b] pos) (e2 dGt F G) := ev_2 (fun p q => pe_cmpR op_gt p q (nomark _)) od_gt cl_gt ha hb
theorem ev_ge (ha : Ev X W a F) (hb : Ev X W b G) : Ev X W (.Compare a [.GtE] [b] pos) (e2 dGe F G) := ev_2 (fun p q => pe_cmpR op_ge p q (nomark _)) od_ge cl_ge ha hb

/-- is None, is not None -/
def isNone : D → Bool
  | .none => true
  | _ => false
def dIsN (x : D) : R D := .ok (.bool (isNone x))
def dNotN (x : D) : R D := .ok (.bool (!isNone x))
theorem rd_none {w : World} {K : PySem.W.Frag} {Z : Hp} {v : V} {d : D} (h : RD w K Z v d) : decide (v = .non) = isNone d := by
  cases h <;> first | rfl | (simp [isNone])
theorem ev_isN {j p} (ha : Ev X W a F) : Ev X W (.Compare a [.Is] [.Constant .none j p] pos) (e1 dIsN F) := by
  refine ⟨fun {Z0 H0 Z H σ ρ Q} r q => toAt (pe_cmp (pc_isN pe_at) rfl) ?_⟩
  refine ha.go r (q.bind.mono fun d hd v Z1 H1 x1 r1 => ?_)
  show Q (.bl (decide (v = .non))) H1
  rw [rd_none r1]
  exact hd _ _ _ x1 (.bl _)
theorem ev_notN {j p} (ha : Ev X W a F) : Ev X W (.Compare a [.IsNot] [.Constant .none j p] pos) (e1 dNotN F) := by
  refine ⟨fun {Z0 H0 Z H σ ρ Q} r q => toAt (pe_cmp (pc_notN pe_at) rfl) ?_⟩
  refine ha.go r (q.bind.mono fun d hd v Z1 H1 x1 r1 => ?_)
  show Q (.bl (!decide (v = .non))) H1
  rw [rd_none r1]
  exact hd _ _ _ x1 (.bl _)
end
end PQ

/-! PQ.4: tests, chains, in, built-in calls, subscripts, slices -/
namespace PQ
open PySem PySem.Spec PyProof.Rows L2
open PySem.W (alike alikeAll dataLt rcLt_alike)

def asB : D → R Bool
  | .bool b => .ok b
  | _ => .stuck
def dLtI : D → D → R D
  | .int i, .int j => .ok (.bool (decide (i < j)))
  | _, _ => .stuck
theorem cl_ltI (x y : D) : (dLtI x y).clean := by cases x <;> cases y <;> trivial
theorem cl_asB (x : D) : (asB x).clean := by cases x <;> trivial
section
variable {X : Cx} {W : WX} {a b c e : Expr} {es rest : List Expr} {pos : Pos} {F G I : EV} {T U : ET} {Fs : EA}

def tV (F : EV) : ET := fun ρ => F ρ >>= asB
theorem rd_bool {w : World} {K : PySem.W.Frag} {Z : Hp} {v : V} {b : Bool} (h : RD w K Z v (.bool b)) : v = .bl b := by cases h; rfl
theorem et_val (ha : Ev X W a F) (he : ∀ whole, isTrue a X.env whole = (do let v ← whole; standAt a.pos; holding [v] (truthy v)) := by intro _; rfl) : Et X W a (tV F) := by
  refine ⟨fun {Z0 H0 Z H σ ρ Q} r q => toAtT (pt_val pe_at he) ?_⟩
  refine ha.go r (q.bind.mono fun d hd v Z1 H1 x1 r1 => ?_)
  cases d with
  | bool b => cases r1; exact ⟨b, rfl, hd _ _ x1⟩
  | _ => exact hd.elim
def tNotB (T : ET) : ET := fun ρ => T ρ >>= fun b => .ok (!b)
theorem et_not (ha : Et X W a T) : Et X W (.UnaryOp .Not a pos) (tNotB T) := by
  refine ⟨fun {Z0 H0 Z H σ ρ Q} r q => toAtT (pt_not pt_at) ?_⟩
  exact ha.go r (q.bind.mono fun b hb Z1 H1 x1 => hb _ _ x1)
def tAndB (T U : ET) : ET := fun ρ => T ρ >>= fun b => if b = true then U ρ else .ok false
def tOrB (T U : ET) : ET := fun ρ => T ρ >>= fun b => if b = true then .ok true else U ρ
theorem ew_and1 (ha : Et X W a T) : Ew X W (.BoolOp .And [a] pos) T := ⟨fun r q => toAtW (pw_and1 pt_at) (ha.go r q)⟩
theorem ew_or1 (ha : Et X W a T) : Ew X W (.BoolOp .Or [a] pos) T := ⟨fun r q => toAtW (pw_or1 pt_at) (ha.go r q)⟩
theorem ew_and (ha : Et X W a T) (hb : Ew X W (.BoolOp .And (b :: rest) pos) U) : Ew X W (.BoolOp .And (a :: b :: rest) pos) (tAndB T U) := by
  refine ⟨fun {Z0 H0 Z H σ ρ Q} r q => toAtW (pw_and pt_at pw_at) ?_⟩
  refine ha.go r (q.bind.mono fun k hk Z1 H1 x1 => ?_)
  cases k with
  | true =>
    show PWat X _ σ H1 Q
    rw [if_pos rfl] at hk
    exact hb.go (r.step x1) ((hk.step x1).mono fun k hk Z2 H2 x2 => hk _ _ (x1.trans x2))
  | false => exact hk _ _ x1
theorem ew_or (ha : Et X W a T) (hb : Ew X W (.BoolOp .Or (b :: rest) pos) U) : Ew X W (.BoolOp .Or (a :: b :: rest) pos) (tOrB T U) := by
  refine ⟨fun {Z0 H0 Z H σ ρ Q} r q => toAtW (pw_or pt_at pw_at) ?_⟩
  refine ha.go r (q.bind.mono fun k hk Z1 H1 x1 => ?_)
  cases k with
  | false =>
    show PWat X _ σ H1 Q
    rw [if_neg Bool.false_ne_true] at hk
    exact hb.go (r.step x1) ((hk.step x1).mono fun k hk Z2 H2 x2 => hk _ _ (x1.trans x2))
  | true => exact hk _ _ x1
/-- and, or, not as values: bools -/
def eAnd (F G : EV) : EV := fun ρ => F ρ >>= asB >>= fun b => if b = true then G ρ else .ok (.bool false)
def eOr (F G : EV) : EV := fun ρ => F ρ >>= asB >>= fun b => if b = true then .ok (.bool true) else G ρ
def eNot (F : EV) : EV := fun ρ => F ρ >>= asB >>= fun b => .ok (.bool (!b))
theorem ev_one {op} (h : Ev X W a F) : Ev X W (.BoolOp op [a] pos) F := ⟨fun r q => toAt (pe_one pe_at) (h.go r q)⟩
theorem ev_and (ha : Ev X W a F) (hb : Ev X W (.BoolOp .And (b :: rest) pos) G) : Ev X W (.BoolOp .And (a :: b :: rest) pos) (eAnd F G) := by
  refine ⟨fun {Z0 H0 Z H σ ρ Q} r q => toAt (pe_and pe_at pe_at) ?_⟩
  refine ha.go r (q.bind.bind.mono fun d hd v Z1 H1 x1 r1 => ?_)
  cases d with
  | bool k =>
    cases r1
    refine ⟨k, rfl, ?_⟩
    cases k with
    | true =>
      have hd : Post X W Z H σ (G ρ) (QV X Z H Q) := hd
      exact hb.go (r.step x1) ((Post.step hd x1).mono fun d hd v Z2 H2 x2 r2 => hd _ _ _ (x1.trans x2) r2)
    | false => exact hd _ _ _ x1 (.bl _)
  | _ => exact hd.elim
theorem ev_or (ha : Ev X W a F) (hb : Ev X W (.BoolOp .Or (b :: rest) pos) G) : Ev X W (.BoolOp .Or (a :: b :: rest) pos) (eOr F G) := by
  refine ⟨fun {Z0 H0 Z H σ ρ Q} r q => toAt (pe_or pe_at pe_at) ?_⟩
  refine ha.go r (q.bind.bind.mono fun d hd v Z1 H1 x1 r1 => ?_)
  cases d with
  | bool k =>
    cases r1
    refine ⟨k, rfl, ?_⟩
    cases k with
    | false =>
      have hd : Post X W Z H σ (G ρ) (QV X Z H Q) := hd
      exact hb.go (r.step x1) ((Post.step hd x1).mono fun d hd v Z2 H2 x2 r2 => hd _ _ _ (x1.trans x2) r2)
    | true => exact hd _ _ _ x1 (.bl _)
  | _ => exact hd.elim
theorem ev_not (ha : Ev X W a F) : Ev X W (.UnaryOp .Not a pos) (eNot F) := by
  refine ⟨fun {Z0 H0 Z H σ ρ Q} r q => toAt (pe_not pe_at) ?_⟩
  refine ha.go r (q.bind.bind.mono fun d hd v Z1 H1 x1 r1 => ?_)
  cases d with
  | bool k => cases r1; exact ⟨k, rfl, hd _ _ _ x1 (.bl _)⟩
  | _ => exact hd.elim
def eIte (T : ET) (F G : EV) : EV := fun ρ => T ρ >>= fun b => if b = true then F ρ else G ρ
theorem ev_ite (hc : Et X W c T) (ha : Ev X W a F) (hb : Ev X W b G) : Ev X W (.IfExp c a b pos) (eIte T F G) := by
  refine ⟨fun {Z0 H0 Z H σ ρ Q} r q => toAt (pe_ifExp pt_at pe_at pe_at) ?_⟩
  refine hc.go r (q.bind.mono fun k hk Z1 H1 x1 => ?_)
  cases k with
  | true => exact ha.go (r.step x1) ((Post.step hk x1).mono fun d hd v Z2 H2 x2 r2 => hd _ _ _ (x1.trans x2) r2)
  | false => exact hb.go (r.step x1) ((Post.step hk x1).mono fun d hd v Z2 H2 x2 r2 => hd _ _ _ (x1.trans x2) r2)

/-- a op b op' c -/
def eCh (f g : D → D → R D) (F G I : EV) : EV := fun ρ => F ρ >>= fun x => G ρ >>= fun y => f x y >>= asB >>= fun k => if k = true then I ρ >>= fun z => g y z else .ok (.bool false)
theorem chain_go {r1 r2 : R2} {f g : D → D → R D} (o1 : OpD X r1 f) (c1 : ∀ x y, (f x y).clean) (o2 : OpD X r2 g) (c2 : ∀ x y, (g x y).clean) (ha : Ev X W a F) (hb : Ev X W b G) (hc : Ev X W c I)
    {Z0 H0 Z H : Hp} {σ : St} {ρ : Rho} {Q : VK} (r : Rep X.w X.K Z0 H0 Z H σ ρ) (q : Post X W Z H σ (eCh f g F G I ρ) (QV X Z H Q)) : tChain r1 r2 (PEat X a) (PEat X b) (PEat X c) σ H Q := by
  refine ha.go r (q.bind.mono fun d hd v Z1 H1 x1 rd1 => ?_)
  refine hb.go (r.step x1) ((hd.bind.step x1).mono fun d2 hd2 v2 Z2 H2 x2 rd2 => ?_)
  refine o1 Z2 H2 v v2 d d2 _ x2.zh (rd1.mono x2.zz) rd2 ?_
  have p := hd2.bind.bind
  have cl := c1 d d2
  cases hf : f d d2 with
  | ok z =>
    rw [hf] at p
    intro v3 Z3 H3 x3 rd3
    cases z with
    | bool k =>
      cases rd3
      refine ⟨k, rfl, ?_⟩
      have x13 := (x1.trans x2).trans x3
      cases k with
      | false =>
        rw [if_neg Bool.false_ne_true]
        exact p _ _ _ x13 (.bl _)
      | true =>
        rw [if_pos rfl]
        have p : Post X W Z H σ (I ρ >>= fun z => g d2 z) (QV X Z H Q) := p
        refine hc.go (r.step x13) ((p.bind.step x13).mono fun d4 hd4 v4 Z4 H4 x4 rd4 => ?_)
        refine o2 Z4 H4 v2 v4 d2 d4 Q x4.zh (rd2.mono (x3.trans x4).zz) rd4 ?_
        have p4 := hd4.to0 (c2 d2 d4)
        cases hg : g d2 d4 with
        | ok z => rw [hg] at p4; exact fun v5 Z5 H5 x5 r5 => p4 v5 Z5 H5 ((x13.trans x4).trans x5) r5
        | exc x => rw [hg] at p4; exact p4.elim
        | stuck => rw [hg] at p4; exact p4.elim
    | _ => exact p.elim
  | exc x => rw [hf] at cl; exact cl.elim
  | stuck => rw [hf] at p; exact p.elim
theorem ev_ch {op op' : CmpOp} {r1 r2 : R2} {f g : D → D → R D} (h1 : OpR X (compareOp op) r1) (h2 : OpR X (compareOp op') r2) (o1 : OpD X r1 f) (c1 : ∀ x y, (f x y).clean) (o2 : OpD X r2 g) (c2 : ∀ x y, (g x y).clean)
    (ha : Ev X W a F) (hb : Ev X W b G) (hc : Ev X W c I) (hm : lastMarks [op, op'] [b, c] = false := by with_unfolding_all rfl) : Ev X W (.Compare a [op, op'] [b, c] pos) (eCh f g F G I) :=
  ⟨fun r q => toAt (pe_chain h1 h2 pe_at pe_at pe_at hm) (chain_go o1 c1 o2 c2 ha hb hc r q)⟩
theorem et_ch {op op' : CmpOp} {r1 r2 : R2} {f g : D → D → R D} (h1 : OpR X (compareOp op) r1) (h2 : OpR X (compareOp op') r2) (o1 : OpD X r1 f) (c1 : ∀ x y, (f x y).clean) (o2 : OpD X r2 g) (c2 : ∀ x y, (g x y).clean)
    (ha : Ev X W a F) (hb : Ev X W b G) (hc : Ev X W c I) (hm : lastMarks [op, op'] [b, c] = false := by with_unfolding_all rfl) : Et X W (.Compare a [op, op'] [b, c] pos) (tV (eCh f g F G I)) := by
  refine ⟨fun {Z0 H0 Z H σ ρ Q} r q => toAtT (pt_chain h1 h2 pe_at pe_at pe_at hm) ?_⟩
  refine chain_go o1 c1 o2 c2 ha hb hc r (q.bind.mono fun d hd v Z1 H1 x1 r1 => ?_)
  cases d with
  | bool k => cases r1; exact ⟨k, rfl, hd _ _ x1⟩
  | _ => exact hd.elim
theorem od_ltI : OpD X (rI0 fun i j => .bl (decide (i < j))) dLtI := by
  intro Z H x y dx dy Q s rx ry h
  cases rx <;> cases ry <;> try exact h.elim
  exact ⟨_, _, rfl, rfl, h _ _ _ (Ext.refl s) (.bl _)⟩
theorem ev_lele (ha : Ev X W a F) (hb : Ev X W b G) (hc : Ev X W c I) (hm : lastMarks [.LtE, .LtE] [b, c] = false := by with_unfolding_all rfl) : Ev X W (.Compare a [.LtE, .LtE] [b, c] pos) (eCh dLe dLe F G I) := ev_ch op_le op_le od_le cl_le od_le cl_le ha hb hc hm
theorem ev_lelt (ha : Ev X W a F) (hb : Ev X W b G) (hc : Ev X W c I) (hm : lastMarks [.LtE, .Lt] [b, c] = false := by with_unfolding_all rfl) : Ev X W (.Compare a [.LtE, .Lt] [b, c] pos) (eCh dLe dLtI F G I) := ev_ch op_le op_lt od_le cl_le od_ltI cl_ltI ha hb hc hm
theorem ev_ltlt (ha : Ev X W a F) (hb : Ev X W b G) (hc : Ev X W c I) (hm : lastMarks [.Lt, .Lt] [b, c] = false := by with_unfolding_all rfl) : Ev X W (.Compare a [.Lt, .Lt] [b, c] pos) (eCh dLtI dLtI F G I) := ev_ch op_lt op_lt od_ltI cl_ltI od_ltI cl_ltI ha hb hc hm
theorem ev_ltle (ha : Ev X W a F) (hb : Ev X W b G) (hc : Ev X W c I) (hm : lastMarks [.Lt, .LtE] [b, c] = false := by with_unfolding_all rfl) : Ev X W (.Compare a [.Lt, .LtE] [b, c] pos) (eCh dLtI dLe F G I) := ev_ch op_lt op_le od_ltI cl_ltI od_le cl_le ha hb hc hm
theorem et_lele (ha : Ev X W a F) (hb : Ev X W b G) (hc : Ev X W c I) (hm : lastMarks [.LtE, .LtE] [b, c] = false := by with_unfolding_all rfl) : Et X W (.Compare a [.LtE, .LtE] [b, c] pos) (tV (eCh dLe dLe F G I)) := et_ch op_le op_le od_le cl_le od_le cl_le ha hb hc hm
theorem et_lelt (ha : Ev X W a F) (hb : Ev X W b G) (hc : Ev X W c I) (hm : lastMarks [.LtE, .Lt] [b, c] = false := by with_unfolding_all rfl) : Et X W (.Compare a [.LtE, .Lt] [b, c] pos) (tV (eCh dLe dLtI F G I)) := et_ch op_le op_lt od_le cl_le od_ltI cl_ltI ha hb hc hm
theorem et_ltlt (ha : Ev X W a F) (hb : Ev X W b G) (hc : Ev X W c I) (hm : lastMarks [.Lt, .Lt] [b, c] = false := by with_unfolding_all rfl) : Et X W (.Compare a [.Lt, .Lt] [b, c] pos) (tV (eCh dLtI dLtI F G I)) := et_ch op_lt op_lt od_ltI cl_ltI od_ltI cl_ltI ha hb hc hm
theorem et_ltle (ha : Ev X W a F) (hb : Ev X W b G) (hc : Ev X W c I) (hm : lastMarks [.Lt, .LtE] [b, c] = false := by with_unfolding_all rfl) : Et X W (.Compare a [.Lt, .LtE] [b, c] pos) (tV (eCh dLtI dLe F G I)) := et_ch op_lt op_le od_ltI cl_ltI od_le cl_le ha hb hc hm

/-! ### in, not in -/
def inOk (xs : List D) (d : D) : Bool := PyData.plainAll xs && d.plain && decide (min (PyData.depthAll xs) d.depth ≤ 60)
theorem inOk_plain {xs : List D} {d : D} (h : inOk xs d = true) : PyData.plainAll xs = true ∧ d.plain = true := by
  simp only [inOk, Bool.and_eq_true] at h
  exact h.1
def dIn : D → D → R D
  | .str x, .str z => guardR (x.cps.size == 1) (.bool (decide (x.cps.getD 0 0 ∈ z.cps.toList)))
  | d, .list xs => guardR (inOk xs d) (.bool (xs.any fun y => PyData.eqv y d))
  | d, .tuple xs => guardR (inOk xs d) (.bool (xs.any fun y => PyData.eqv y d))
  | _, _ => .stuck
def dNotIn (x y : D) : R D := dIn x y >>= fun d => asB d >>= fun b => .ok (.bool (!b))
theorem cl_in (x y : D) : (dIn x y).clean := by unfold dIn; split <;> first | trivial | exact clean_guard _ _
theorem cl_notIn (x y : D) : (dNotIn x y).clean := by
  have := cl_in x y
  unfold dNotIn
  cases h : dIn x y with
  | ok d => cases d <;> trivial
  | exc x => rw [h] at this; exact this.elim
  | stuck => trivial
def rInP (K : PySem.W.Frag) (neg : Bool) : R2 := fun x y H Q => (∃ (c : Nat) (z : Str), x = .str ⟨#[c]⟩ ∧ y = .str z ∧ Q (.bl (if neg then !decide (c ∈ z.cps.toList) else decide (c ∈ z.cps.toList))) H) ∨
  (∃ d xs, Dp K H x d ∧ (Dp K H y (.list xs) ∨ Dp K H y (.tuple xs)) ∧ inOk xs d = true ∧ Q (.bl (if neg then !xs.any fun y => PyData.eqv y d else xs.any fun y => PyData.eqv y d)) H)
theorem op_inP (hu : HasRoom X) : OpR X (compareOp .In) (rInP X.K false) := by
  intro pins s σ H x y v u Q I rx ry h
  rcases h with ⟨c, z, rfl, rfl, q⟩ | ⟨d, xs, h1, h2, h3, q⟩
  · exact op_in_sign pins s σ H _ _ v u Q I rx ry ⟨c, z, rfl, rfl, q⟩
  · obtain ⟨as, r1⟩ := Dp.reads I d x v h1 rx
    simp only [inOk, Bool.and_eq_true, decide_eq_true_eq] at h3
    have hu' : X.A.units + 100 < cLine := hu
    rcases h2 with h2 | h2
    · obtain ⟨bs, r2⟩ := Dp.reads I _ y u h2 ry
      exact SeqAt.in_list_data r2 r1 h3.1.1 h3.1.2 (by omega) ⟨.bl _, H, I, rfl, q⟩
    · obtain ⟨bs, r2⟩ := Dp.reads I _ y u h2 ry
      exact SeqAt.in_tuple_data r2 r1 h3.1.1 h3.1.2 (by omega) ⟨.bl _, H, I, rfl, q⟩
theorem op_notInP (hu : HasRoom X) : OpR X (compareOp .NotIn) (rInP X.K true) := by
  intro pins s σ H x y v u Q I rx ry h
  rcases h with ⟨c, z, rfl, rfl, q⟩ | ⟨d, xs, h1, h2, h3, q⟩
  · exact op_notIn_sign pins s σ H _ _ v u Q I rx ry ⟨c, z, rfl, rfl, q⟩
  · obtain ⟨as, r1⟩ := Dp.reads I d x v h1 rx
    simp only [inOk, Bool.and_eq_true, decide_eq_true_eq] at h3
    have hu' : X.A.units + 100 < cLine := hu
    rcases h2 with h2 | h2
    · obtain ⟨bs, r2⟩ := Dp.reads I _ y u h2 ry
      exact SeqAt.notIn_list_data r2 r1 h3.1.1 h3.1.2 (by omega) ⟨.bl _, H, I, rfl, q⟩
    · obtain ⟨bs, r2⟩ := Dp.reads I _ y u h2 ry
      exact SeqAt.notIn_tuple_data r2 r1 h3.1.1 h3.1.2 (by omega) ⟨.bl _, H, I, rfl, q⟩
theorem one_sign {x : Str} (h : (x.cps.size == 1) = true) : x = ⟨#[x.cps.getD 0 0]⟩ := by
  obtain ⟨⟨l⟩⟩ := x
  match l, h with
  | [c], _ => rfl
theorem in_go (neg : Bool) {Z H : Hp} {x y : V} {dx dy : D} {Q : VK} (s : Same Z H) (rx : RD X.w X.K Z x dx) (ry : RD X.w X.K Z y dy)
    (h : Post0 (dIn dx dy) fun d => ∃ b, d = .bool b ∧ QV X Z H Q (.bool (if neg then !b else b))) : rInP X.K neg x y H Q := by
  unfold dIn at h
  split at h
  · obtain ⟨hc, b, e, h⟩ := h.guard
    cases e
    cases rx; cases ry
    exact .inl ⟨_, _, congrArg V.str (one_sign hc), rfl, h _ _ _ (Ext.refl s) (.bl _)⟩
  · obtain ⟨hc, b, e, h⟩ := h.guard
    cases e
    have p := inOk_plain hc
    refine .inr ⟨_, _, Dp.mono2 s rx p.2, .inl (Dp.mono2 s ry ?_), hc, h _ _ _ (Ext.refl s) (.bl _)⟩
    rw [PyData.plain]; exact p.1
  · obtain ⟨hc, b, e, h⟩ := h.guard
    cases e
    have p := inOk_plain hc
    refine .inr ⟨_, _, Dp.mono2 s rx p.2, .inr (Dp.mono2 s ry ?_), hc, h _ _ _ (Ext.refl s) (.bl _)⟩
    rw [PyData.plain]; exact p.1
  · exact h.elim
theorem od_in : OpD X (rInP X.K false) dIn := by
  intro Z H x y dx dy Q s rx ry h
  refine in_go false s rx ry ?_
  unfold dIn at h ⊢
  split at h <;> (try exact h.elim) <;> (obtain ⟨hc, h⟩ := h.guard; rw [guardR_of hc]; exact ⟨_, rfl, h⟩)
theorem od_notIn : OpD X (rInP X.K true) dNotIn := by
  intro Z H x y dx dy Q s rx ry h
  refine in_go true s rx ry ?_
  unfold dNotIn at h
  have cl := cl_in dx dy
  cases e : dIn dx dy with
  | ok d =>
    rw [e] at h
    cases d with
    | bool b => exact ⟨b, rfl, h⟩
    | _ => exact h.elim
  | exc x => rw [e] at cl; exact cl.elim
  | stuck => rw [e] at h; exact h.elim
theorem ev_in (hu : HasRoom X) (ha : Ev X W a F) (hb : Ev X W b G) (hm : behindInMarks .In b = false := by rfl) : Ev X W (.Compare a [.In] [b] pos) (e2 dIn F G) :=
  ev_2 (fun p q => pe_cmpR (op_inP hu) p q hm) od_in cl_in ha hb
theorem ev_notIn (hu : HasRoom X) (ha : Ev X W a F) (hb : Ev X W b G) (hm : behindInMarks .NotIn b = false := by rfl) : Ev X W (.Compare a [.NotIn] [b] pos) (e2 dNotIn F G) :=
  ev_2 (fun p q => pe_cmpR (op_notInP hu) p q hm) od_notIn cl_notIn ha hb
end
end PQ

/-! PQ.5: subscripts, slices, built-in calls -/
namespace PQ
open PySem PySem.Spec PyProof.Rows L2
open PySem.W (alike alikeAll dataLt rcLt_alike)

/-! ### a[i] -/
def dIx : D → D → R D
  | .list ds, .int i => match atI ds i with
    | some d => .ok d
    | none => .stuck
  | .tuple ds, .int i => match atI ds i with
    | some d => .ok d
    | none => .stuck
  | .str z, .int i => match atI z.cps.toList i with
    | some c => guardR (fits z.length) (.str ⟨#[c]⟩)
    | none => .stuck
  | _, _ => .stuck
theorem cl_ix (x y : D) : (dIx x y).clean := by unfold dIx; split <;> (try split) <;> first | trivial | exact clean_guard _ _
section
variable {X : Cx} {W : WX} {a b c e : Expr} {es rest : List Expr} {pos : Pos} {F G I : EV} {T U : ET} {Fs : EA}
theorem RDs.at {w : World} {K : PySem.W.Frag} {Z : Hp} {vs : List V} {ds : List D} {i : Int} {d : D} (r : RDs w K Z vs ds) (h : atI ds i = some d) : ∃ v, atI vs i = some v ∧ RD w K Z v d := by
  unfold atI at h ⊢
  rw [r.length]
  cases e : ixN ds.length i with
  | none => rw [e] at h; cases h
  | some j =>
    rw [e] at h
    obtain ⟨v, h1, h2⟩ := r.get (i := j) h
    exact ⟨v, h1, h2⟩
theorem od_ix : OpD X (rIx X.K) dIx := by
  intro Z H x y dx dy Q s rx ry h
  unfold dIx at h
  split at h
  · cases ry
    cases rx with
    | lst h1 r1 =>
      split at h
      · rename_i d hd
        obtain ⟨v, hv, rv⟩ := r1.at hd
        exact .inl ⟨_, _, _, v, rfl, rfl, .inl (.inl (s _ _ h1)), hv, h _ _ _ (Ext.refl s) rv⟩
      · exact h.elim
  · cases ry
    cases rx with
    | tup h1 r1 =>
      split at h
      · rename_i d hd
        obtain ⟨v, hv, rv⟩ := r1.at hd
        exact .inr (.inl ⟨_, _, _, v, rfl, rfl, SqT.mono s h1, hv, h _ _ _ (Ext.refl s) rv⟩)
      · exact h.elim
  · cases ry
    cases rx
    split at h
    · rename_i c hc
      obtain ⟨hf, h⟩ := h.guard
      exact .inr (.inr ⟨_, _, c, rfl, rfl, fits_le hf, hc, h _ _ _ (Ext.refl s) (.str _)⟩)
    · exact h.elim
  · exact h.elim
theorem ev_ix (ha : Ev X W a F) (hb : Ev X W b G) (hs : PlainIx b := by exact fun _ _ => rfl) : Ev X W (.Subscript a b pos) (e2 dIx F G) := ev_2 (fun p q => pe_ix ix_seq p q hs) od_ix cl_ix ha hb

/-! ### a[i:j] -/
def cutL {α : Type} (xs : List α) (lo hi : Option Int) : List α := (xs.drop (HT.sIx xs.length 0 lo)).take (HT.sIx xs.length xs.length hi - HT.sIx xs.length 0 lo)
abbrev EP' := Rho → R (Option Int)
structure Ep (X : Cx) (W : WX) (e : Option Expr) (F : EP') : Prop where
  go : ∀ {Z0 H0 Z H : Hp} {σ : St} {ρ : Rho} {Q : Option Int → Hp → Prop}, Rep X.w X.K Z0 H0 Z H σ ρ → Post X W Z H σ (F ρ) (fun o => ∀ Z' H', Ext Z H Z' H' → Q o H') →
    ∀ (pins : List (Addr × Obj)) (s : Shared), Inv X pins σ H s → wpAny (model X.prog X.w) X.A (evalPart e X.env) (fun u s' => ∃ o H', Inv X pins σ H' s' ∧ IsPart u o ∧ Q o H') X.xe s
def pNone : EP' := fun _ => .ok none
def pSome (F : EV) : EP' := fun ρ => F ρ >>= fun d => match d with
  | .int i => .ok (some i)
  | _ => .stuck
theorem ep_none : Ep X W none pNone := ⟨fun r q pins s I => po_none.run pins s _ _ _ I (q _ _ (Ext.refl r.zh))⟩
theorem ep_some (ha : Ev X W a F) : Ep X W (some a) (pSome F) := by
  refine ⟨fun {Z0 H0 Z H σ ρ Q} r q pins s I => (po_some pe_at).run pins s _ _ _ I ?_⟩
  refine ha.go r (q.bind.mono fun d hd v Z1 H1 x1 r1 => ?_)
  cases d with
  | int i => cases r1; exact ⟨i, rfl, hd _ _ x1⟩
  | _ => exact hd.elim
def dCut (lo hi : Option Int) : D → R D
  | .list ds => .ok (.list (cutL ds lo hi))
  | .tuple ds => .ok (.tuple (cutL ds lo hi))
  | .str z => guardR (fits z.length) (.str (cutS z lo hi))
  | _ => .stuck
def eCut (F : EV) (P P' : EP') : EV := fun ρ => F ρ >>= fun x => P ρ >>= fun lo => P' ρ >>= fun hi => dCut lo hi x
theorem RDs.cut {w : World} {K : PySem.W.Frag} {Z : Hp} {vs : List V} {ds : List D} (r : RDs w K Z vs ds) (lo hi : Option Int) : RDs w K Z (cutV vs lo hi) (cutL ds lo hi) := by
  unfold cutV cutL
  rw [r.length]
  exact (r.drop _).take _
abbrev rSlAll (K : PySem.W.Frag) : V → Option Int → Option Int → Hp → VK → Prop := fun x lo hi H Q => rSlL K x lo hi H Q ∨ (fun x lo hi H Q => rSlA K x lo hi H Q ∨ rSlS x lo hi H Q) x lo hi H Q
theorem sl_all : SlR X (rSlAll X.K) := sl_list.or (sl_tupA.or sl_str)
theorem po_at {e : Option Expr} : L2.PO X e (fun σ H Q => ∀ (pins : List (Addr × Obj)) (s : Shared), Inv X pins σ H s → wpAny (model X.prog X.w) X.A (evalPart e X.env) (fun u s' => ∃ o H', Inv X pins σ H' s' ∧ IsPart u o ∧ Q o H') X.xe s) :=
  ⟨fun pins s σ H Q I h => h pins s I⟩
theorem cut_whole {α : Type} {xs : List α} {lo hi : Option Int} (h : HT.sIx xs.length 0 lo = 0 ∧ HT.sIx xs.length xs.length hi = xs.length) : cutL xs lo hi = xs := by
  unfold cutL
  rw [h.1, h.2, List.drop_zero, Nat.sub_zero, List.take_length]
theorem dcut_go {Z H : Hp} {x : V} {d : D} {lo hi : Option Int} {Q : VK} (s : Same Z H) (rx : RD X.w X.K Z x d) (h : Post0 (dCut lo hi d) (QV X Z H Q)) : rSlAll X.K x lo hi H Q := by
  cases rx with
  | lst h1 r1 =>
    rename_i p xs ds
    refine .inl ⟨p, xs, rfl, .inl (.inl (s _ _ h1)), fun q hq => ?_⟩
    have x := Ext.new (o := .lst (cutV xs lo hi)) s hq
    exact h _ _ _ x (.lst upd_same ((r1.cut _ _).mono x.zz))
  | tup h1 r1 =>
    rename_i p xs ds
    refine .inr (.inl ⟨p, xs, rfl, SqT.mono s h1, fun e => ?_, fun _ q hq => ?_⟩)
    · refine h _ _ _ (Ext.refl s) (.tup h1 ?_)
      rw [cut_whole (by rw [← r1.length]; exact e)]
      exact r1
    · have x := Ext.new (o := .tup (cutV xs lo hi)) s hq
      exact h _ _ _ x (.tup (.inl (.inl upd_same)) ((r1.cut _ _).mono x.zz))
  | str z =>
    obtain ⟨hf, h⟩ := h.guard
    exact .inr (.inr ⟨z, rfl, fits_le hf, h _ _ _ (Ext.refl s) (.str _)⟩)
  | _ => exact h.elim
theorem cl_cut (lo hi : Option Int) (x : D) : (dCut lo hi x).clean := by cases x <;> first | trivial | exact clean_guard _ _
theorem ev_cut {lo hi : Option Expr} {P P' : EP'} {p2 : Pos} (ha : Ev X W a F) (hl : Ep X W lo P) (hh : Ep X W hi P') : Ev X W (.Subscript a (.Slice lo hi none p2) pos) (eCut F P P') := by
  refine ⟨fun {Z0 H0 Z H σ ρ Q} r q => toAt (pe_slice sl_all pe_at po_at po_at) ?_⟩
  refine ha.go r (q.bind.mono fun d hd v Z1 H1 x1 r1 => ?_)
  refine hl.go (r.step x1) ((hd.bind.step x1).mono fun l hl Z2 H2 x2 => ?_)
  refine hh.go ((r.step x1).step x2) (((hl.bind.step x1).step x2).mono fun u hu Z3 H3 x3 => ?_)
  refine dcut_go x3.zh (r1.mono (x2.trans x3).zz) ?_
  have p := hu.to0 (cl_cut l u d)
  cases e : dCut l u d with
  | ok z => rw [e] at p; exact fun v4 Z4 H4 x4 r4 => p _ _ _ (((x1.trans x2).trans x3).trans x4) r4
  | exc x => rw [e] at p; exact p.elim
  | stuck => rw [e] at p; exact p.elim
end
end PQ

/-! PQ.6: built-in calls -/
namespace PQ
open PySem PySem.Spec PyProof.Rows L2
open PySem.W (alike alikeAll dataLt rcLt_alike)

section
variable {X : Cx} {W : WX} {a b c e : Expr} {es rest : List Expr} {pos p : Pos} {F G I : EV} {T U : ET} {Fs : EA}

/-! ### len -/
def dLen : List D → R D
  | [.list ds] => .ok (.int ds.length)
  | [.tuple ds] => .ok (.int ds.length)
  | [.str z] => guardR (fits z.length) (.int z.length)
  | _ => .stuck
theorem cl_len (x : List D) : (dLen x).clean := by unfold dLen; split <;> first | trivial | exact clean_guard _ _
abbrev rLenAll (K : PySem.W.Frag) : List V → Hp → VK → Prop := fun xs H Q => (∃ p ys, xs = [.ref p] ∧ (SqL K H p ys ∨ SqT K H p ys) ∧ Q (.int ys.length) H) ∨ (∃ z, xs = [.str z] ∧ z.length ≤ sizeLine ∧ Q (.int z.length) H)
theorem rds1 {w : World} {K : PySem.W.Frag} {Z : Hp} {vs : List V} {d : D} (h : RDs w K Z vs [d]) : ∃ v, vs = [v] ∧ RD w K Z v d := by
  cases h with
  | cons h t => cases t; exact ⟨_, rfl, h⟩
theorem rds2 {w : World} {K : PySem.W.Frag} {Z : Hp} {vs : List V} {d e : D} (h : RDs w K Z vs [d, e]) : ∃ v u, vs = [v, u] ∧ RD w K Z v d ∧ RD w K Z u e := by
  cases h with
  | cons h t =>
    cases t with
    | cons h2 t => cases t; exact ⟨_, _, rfl, h, h2⟩
theorem cd_len : CaD X (rLenAll X.K) dLen := by
  intro Z H xs ds Q s r h
  unfold dLen at h
  split at h
  · obtain ⟨v, rfl, r0⟩ := rds1 r
    cases r0 with
    | lst h1 r1 =>
      refine .inl ⟨_, _, rfl, .inl (.inl (.inl (s _ _ h1))), ?_⟩
      rw [r1.length]
      exact h _ _ _ (Ext.refl s) (.int _)
  · obtain ⟨v, rfl, r0⟩ := rds1 r
    cases r0 with
    | tup h1 r1 =>
      refine .inl ⟨_, _, rfl, .inr (SqT.mono s h1), ?_⟩
      rw [r1.length]
      exact h _ _ _ (Ext.refl s) (.int _)
  · obtain ⟨v, rfl, r0⟩ := rds1 r
    cases r0
    obtain ⟨hf, h⟩ := h.guard
    exact .inr ⟨_, rfl, fits_le hf, h _ _ _ (Ext.refl s) (.int _)⟩
  · exact h.elim
theorem ev_len (hm : X.mg "len" = none) (ha : Ea X W [a] Fs) (hg : Gl X "len" := by rfl) : Ev X W (.Call (.Name "len" p) [a] [] pos) (eA dLen Fs) :=
  ev_A (fun h => pe_callB (call_len_seq.or call_len_str) hg hm PySem.boot_len h (he := ha.se _ _ rfl) (hpl := ha.plt _ _ rfl _)) cd_len cl_len ha

/-! ### int(x), abs(x), max(x, y), min(x, y) -/
def dInt : List D → R D
  | [.int i] => .ok (.int i)
  | [.bool b] => .ok (.int (if b then 1 else 0))
  | [.str z] => match PySem.intText? z with
    | some n => guardR (decide (z.length ≤ 640)) (.int n)
    | none => .stuck
  | _ => .stuck
theorem cl_int (x : List D) : (dInt x).clean := by unfold dInt; split <;> (try split) <;> first | trivial | exact clean_guard _ _
abbrev rIntAll : List V → Hp → VK → Prop := fun xs H Q => ((∃ i, xs = [.int i] ∧ Q (.int i) H) ∨ ∃ k, xs = [.bl k] ∧ Q (.int (if k then 1 else 0)) H) ∨ (∃ a n, xs = [.str a] ∧ PySem.intText? a = some n ∧ a.length ≤ 640 ∧ Q (.int n) H)
theorem cd_int : CaD X rIntAll dInt := by
  intro Z H xs ds Q s r h
  unfold dInt at h
  split at h
  · obtain ⟨v, rfl, r0⟩ := rds1 r
    cases r0
    exact .inl (.inl ⟨_, rfl, h _ _ _ (Ext.refl s) (.int _)⟩)
  · obtain ⟨v, rfl, r0⟩ := rds1 r
    cases r0
    exact .inl (.inr ⟨_, rfl, h _ _ _ (Ext.refl s) (.int _)⟩)
  · obtain ⟨v, rfl, r0⟩ := rds1 r
    cases r0
    split at h
    · rename_i n hn
      obtain ⟨hf, h⟩ := h.guard
      exact .inr ⟨_, n, rfl, hn, of_decide_eq_true hf, h _ _ _ (Ext.refl s) (.int _)⟩
    · exact h.elim
  · exact h.elim
theorem ev_intc (hm : X.mg "int" = none) (ha : Ea X W [a] Fs) (hg : Gl X "int" := by rfl) : Ev X W (.Call (.Name "int" p) [a] [] pos) (eA dInt Fs) :=
  ev_A (fun h => pe_callTy (call_int1.or call_int_str) hg hm (by decide +kernel) h (he := ha.se _ _ rfl) (hpl := ha.plt _ _ rfl _)) cd_int cl_int ha
def dAbs : List D → R D
  | [.int i] => .ok (.int (if i < 0 then -i else i))
  | _ => .stuck
theorem cl_abs (x : List D) : (dAbs x).clean := by unfold dAbs; split <;> trivial
theorem cd_abs : CaD X (fun xs H Q => ∃ i, xs = [.int i] ∧ Q (.int (if i < 0 then -i else i)) H) dAbs := by
  intro Z H xs ds Q s r h
  unfold dAbs at h
  split at h
  · obtain ⟨v, rfl, r0⟩ := rds1 r
    cases r0
    exact ⟨_, rfl, h _ _ _ (Ext.refl s) (.int _)⟩
  · exact h.elim
theorem ev_abs (hm : X.mg "abs" = none) (ha : Ea X W [a] Fs) (hg : Gl X "abs" := by rfl) : Ev X W (.Call (.Name "abs" p) [a] [] pos) (eA dAbs Fs) :=
  ev_A (fun h => pe_callB call_abs hg hm (by decide +kernel) h (he := ha.se _ _ rfl) (hpl := ha.plt _ _ rfl _)) cd_abs cl_abs ha
def dMax2 : List D → R D
  | [.int i, .int j] => .ok (.int (if j > i then j else i))
  | _ => .stuck
def dMin2 : List D → R D
  | [.int i, .int j] => .ok (.int (if j < i then j else i))
  | _ => .stuck
theorem cl_max2 (x : List D) : (dMax2 x).clean := by unfold dMax2; split <;> trivial
theorem cl_min2 (x : List D) : (dMin2 x).clean := by unfold dMin2; split <;> trivial
theorem cd_max2 : CaD X (fun xs H Q => ∃ i j, xs = [.int i, .int j] ∧ Q (.int (if j > i then j else i)) H) dMax2 := by
  intro Z H xs ds Q s r h
  unfold dMax2 at h
  split at h
  · obtain ⟨v, u, rfl, r1, r2⟩ := rds2 r
    cases r1; cases r2
    exact ⟨_, _, rfl, h _ _ _ (Ext.refl s) (.int _)⟩
  · exact h.elim
theorem cd_min2 : CaD X (fun xs H Q => ∃ i j, xs = [.int i, .int j] ∧ Q (.int (if j < i then j else i)) H) dMin2 := by
  intro Z H xs ds Q s r h
  unfold dMin2 at h
  split at h
  · obtain ⟨v, u, rfl, r1, r2⟩ := rds2 r
    cases r1; cases r2
    exact ⟨_, _, rfl, h _ _ _ (Ext.refl s) (.int _)⟩
  · exact h.elim
theorem ev_max2 (hc : X.calm = true) (hm : X.mg "max" = none) (ha : Ea X W [a, b] Fs) (hg : Gl X "max" := by rfl) : Ev X W (.Call (.Name "max" p) [a, b] [] pos) (eA dMax2 Fs) :=
  ev_A (fun h => pe_callB (call_max2 hc) hg hm (by decide +kernel) h (he := ha.se _ _ rfl) (hpl := ha.plt _ _ rfl _)) cd_max2 cl_max2 ha
theorem ev_min2 (hc : X.calm = true) (hm : X.mg "min" = none) (ha : Ea X W [a, b] Fs) (hg : Gl X "min" := by rfl) : Ev X W (.Call (.Name "min" p) [a, b] [] pos) (eA dMin2 Fs) :=
  ev_A (fun h => pe_callB (call_min2 hc) hg hm (by decide +kernel) h (he := ha.se _ _ rfl) (hpl := ha.plt _ _ rfl _)) cd_min2 cl_min2 ha

/-! ### str(n) -/
def dStr : List D → R D
  | [.int i] => guardR (decide (i.natAbs.log2 < 1920)) (.str (toString i : String))
  | _ => .stuck
theorem cl_str (x : List D) : (dStr x).clean := by unfold dStr; split <;> first | trivial | exact clean_guard _ _
theorem cd_str : CaD X (fun xs H Q => ∃ i, xs = [.int i] ∧ i.natAbs.log2 < 1920 ∧ Q (.str (toString i : String)) H) dStr := by
  intro Z H xs ds Q s r h
  unfold dStr at h
  split at h
  · obtain ⟨v, rfl, r0⟩ := rds1 r
    cases r0
    obtain ⟨hf, h⟩ := h.guard
    exact ⟨_, rfl, of_decide_eq_true hf, h _ _ _ (Ext.refl s) (.str _)⟩
  · exact h.elim
theorem ev_strc (hm : X.mg "str" = none) (ha : Ea X W [a] Fs) (hg : Gl X "str" := by rfl) : Ev X W (.Call (.Name "str" p) [a] [] pos) (eA dStr Fs) :=
  ev_A (fun h => pe_callTy call_str_int hg hm (by decide +kernel) h (he := ha.se _ _ rfl) (hpl := ha.plt _ _ rfl _)) cd_str cl_str ha

/-! ### isinstance(x, T) -/
def tyName : D → String
  | .none => "NoneType"
  | .bool _ => "bool"
  | .int _ => "int"
  | .str _ => "str"
  | .list _ => "list"
  | .tuple _ => "tuple"
  | .dict _ => "dict"
/-- isinstance by the types' names, for T one of int, str, tuple, list, bool, dict -/
def isaB (T : String) (d : D) : Bool := tyName d == T || (T == "int" && tyName d == "bool")
def dIsi (T : String) (d : D) : R D := .ok (.bool (isaB T d))
theorem rd_ty {w : World} {K : PySem.W.Frag} {Z H : Hp} {v : V} {d : D} (s : Same Z H) (h : RD w K Z v d) (nd : tyName d ≠ "dict") : TyX K H v (.type (tyName d)) := by
  cases h with
  | non => exact .base .non
  | bl b => exact .base (.bl b)
  | int i => exact .base (.int i)
  | str x => exact .base (.str x)
  | lst h r => exact .base (.lst (s _ _ h))
  | tup h r =>
    rcases h with (h | ⟨o, h⟩) | ⟨o, its, n, h1, h2, _⟩
    · exact .base (.tup (s _ _ h))
    · exact .fTuple (s _ _ h)
    · exact .kTuple h1 h2
  | dct _ _ _ _ _ _ _ => exact absurd rfl nd
def kitTab (T : String) : Bool := ["NoneType", "bool", "int", "str", "list", "tuple"].all fun n => kitB n T == some (n == T || (T == "int" && n == "bool"))
theorem kit_all {T : String} (h : kitTab T = true) {d : D} (nd : tyName d ≠ "dict") : kitB (tyName d) T = some (isaB T d) := by
  unfold kitTab at h
  rw [List.all_eq_true] at h
  have := h (tyName d) (by cases d <;> simp_all [tyName])
  rw [beq_iff_eq] at this
  exact this
def dIsi' (T : String) (d : D) : R D := if tyName d = "dict" then .stuck else dIsi T d
theorem cl_isi (T : String) (x : D) : (dIsi' T x).clean := by unfold dIsi'; split <;> trivial
theorem ev_isi {T : String} {p2 : Pos} {x : Str} (hx : x = Str.ofString T) (hm : X.mg "isinstance" = none) (hmT : X.mg x = none) (hk : kitTab T = true) (hbT : bootBuiltins x = some (.type T)) (ha : Ev X W a F) (hg : Gl X "isinstance" := by rfl) (hgT : Gl X x := by rfl)
    (hn : x ≠ "__name__" := by decide) (hd : (x == ("__debug__" : Str)) = false := by decide)
    (he : starEach [a, .Name x p2] X.env = (false, eval a X.env) :: starEach [.Name x p2] X.env := by rfl) (hpl : (backTo pos (starEach [.Name x p2] X.env)).any (·.1) = false := by rfl)
    (he2 : starEach [.Name x p2] X.env = (false, eval (.Name x p2) X.env) :: starEach [] X.env := by rfl) :
    Ev X W (.Call (.Name "isinstance" p) [a, .Name x p2] [] pos) (e1 (dIsi' T) F) := by
  have h2 : PE X (.Name x p2) (tC (.ty T)) := pe_bltn hgT hmT hbT rfl hn hd
  refine ⟨fun {Z0 H0 Z H σ ρ Q} r q => toAt (pe_callB call_isi hg hm (by decide +kernel) (pa_cons pe_at (pa_cons h2 pa_nil he2) he) (hpl := hpl) (he := he)) ?_⟩
  refine ha.go r (q.bind.mono fun d hd v Z1 H1 x1 r1 => ?_)
  unfold dIsi' at hd
  split at hd
  · exact hd.elim
  · rename_i nd
    exact ⟨v, .ty T, .type (tyName d), .type T, isaB T d, rfl, .ty T, rd_ty x1.zh r1 nd, kit_ty (kit_all hk nd), hd _ _ _ x1 (.bl _)⟩

/-! ### all, any of a list of bools -/
def bools : List D → R (List Bool)
  | [] => .ok []
  | .bool b :: r => bools r >>= fun bs => .ok (b :: bs)
  | _ :: _ => .stuck
def dAll : List D → R D
  | [.list ds] => bools ds >>= fun bs => .ok (.bool (bs.all id))
  | _ => .stuck
def dAny : List D → R D
  | [.list ds] => bools ds >>= fun bs => .ok (.bool (bs.any id))
  | _ => .stuck
theorem bools_map {bs : List Bool} : bools (bs.map .bool) = .ok bs := by
  induction bs with
  | nil => rfl
  | cons b bs ih => rw [List.map_cons, bools, ih]; rfl
theorem bools_ok : ∀ {ds : List D} {bs : List Bool}, bools ds = .ok bs → ds = bs.map .bool
  | [], bs, h => by cases h; rfl
  | .bool b :: r, bs, h => by
    rw [bools] at h
    cases e : bools r with
    | ok bs' => rw [e] at h; cases h; rw [List.map_cons, ← bools_ok e]
    | exc x => rw [e] at h; cases h
    | stuck => rw [e] at h; cases h
  | .none :: _, _, h => by cases h
  | .int _ :: _, _, h => by cases h
  | .str _ :: _, _, h => by cases h
  | .list _ :: _, _, h => by cases h
  | .tuple _ :: _, _, h => by cases h
  | .dict _ :: _, _, h => by cases h
theorem bools_clean : ∀ ds : List D, (bools ds).clean
  | [] => trivial
  | .bool b :: r => by
    have := bools_clean r
    rw [bools]
    cases e : bools r with
    | ok bs' => trivial
    | exc x => rw [e] at this; exact this
    | stuck => trivial
  | .none :: _ => trivial
  | .int _ :: _ => trivial
  | .str _ :: _ => trivial
  | .list _ :: _ => trivial
  | .tuple _ :: _ => trivial
  | .dict _ :: _ => trivial
theorem clean_bind {α β : Type} {r : R α} {f : α → R β} (h : r.clean) (hf : ∀ a, (f a).clean) : (r >>= f).clean := by
  cases r with
  | ok a => exact hf a
  | exc x => exact h
  | stuck => trivial
theorem cl_all (x : List D) : (dAll x).clean := by unfold dAll; split <;> first | trivial | exact clean_bind (bools_clean _) fun _ => trivial
theorem cl_any (x : List D) : (dAny x).clean := by unfold dAny; split <;> first | trivial | exact clean_bind (bools_clean _) fun _ => trivial
theorem rds_bools {w : World} {K : PySem.W.Frag} {Z : Hp} : ∀ {vs : List V} {bs : List Bool}, RDs w K Z vs (bs.map .bool) → vs = bs.map V.bl
  | _, [], h => by cases h; rfl
  | _, b :: bs, h => by
    cases h with
    | cons h t => cases h; rw [List.map_cons, rds_bools t]
theorem rds_ints {w : World} {K : PySem.W.Frag} {Z : Hp} : ∀ {vs : List V} {ns : List Int}, RDs w K Z vs (ns.map .int) → vs = ns.map V.int
  | _, [], h => by cases h; rfl
  | _, b :: bs, h => by
    cases h with
    | cons h t => cases h; rw [List.map_cons, rds_ints t]
theorem rds_strs {w : World} {K : PySem.W.Frag} {Z : Hp} : ∀ {vs : List V} {ns : List Str}, RDs w K Z vs (ns.map .str) → vs = ns.map V.str
  | _, [], h => by cases h; rfl
  | _, b :: bs, h => by
    cases h with
    | cons h t => cases h; rw [List.map_cons, rds_strs t]
theorem cd_all : CaD X (rAll X.K) dAll := by
  intro Z H xs ds Q s r h
  unfold dAll at h
  split at h
  · rename_i ds
    obtain ⟨v, rfl, r0⟩ := rds1 r
    cases e : bools ds with
    | ok bs =>
      rw [e] at h
      have ed := bools_ok e
      subst ed
      cases r0 with
      | lst h1 r1 =>
        have := rds_bools r1
        subst this
        exact ⟨_, bs, rfl, .inl (.inl (s _ _ h1)), h _ _ _ (Ext.refl s) (.bl _)⟩
    | exc x => rw [e] at h; exact h.elim
    | stuck => rw [e] at h; exact h.elim
  · exact h.elim
theorem cd_any : CaD X (rAny X.K) dAny := by
  intro Z H xs ds Q s r h
  unfold dAny at h
  split at h
  · rename_i ds
    obtain ⟨v, rfl, r0⟩ := rds1 r
    cases e : bools ds with
    | ok bs =>
      rw [e] at h
      have ed := bools_ok e
      subst ed
      cases r0 with
      | lst h1 r1 =>
        have := rds_bools r1
        subst this
        exact ⟨_, bs, rfl, .inl (.inl (s _ _ h1)), h _ _ _ (Ext.refl s) (.bl _)⟩
    | exc x => rw [e] at h; exact h.elim
    | stuck => rw [e] at h; exact h.elim
  · exact h.elim
theorem ev_all (hc : X.calm = true) (hm : X.mg "all" = none) (ha : Ea X W [a] Fs) (hg : Gl X "all" := by rfl) : Ev X W (.Call (.Name "all" p) [a] [] pos) (eA dAll Fs) :=
  ev_A (fun h => pe_callB (cr_all hc) hg hm (by decide +kernel) h (he := ha.se _ _ rfl) (hpl := ha.plt _ _ rfl _)) cd_all cl_all ha
theorem ev_any (hc : X.calm = true) (hm : X.mg "any" = none) (ha : Ea X W [a] Fs) (hg : Gl X "any" := by rfl) : Ev X W (.Call (.Name "any" p) [a] [] pos) (eA dAny Fs) :=
  ev_A (fun h => pe_callB (cr_any hc) hg hm (by decide +kernel) h (he := ha.se _ _ rfl) (hpl := ha.plt _ _ rfl _)) cd_any cl_any ha

/-! ### tuple(x), list(x) -/
def dTuple : List D → R D
  | [.list ds] => .ok (.tuple ds)
  | [.tuple ds] => .ok (.tuple ds)
  | _ => .stuck
theorem cl_tuple (x : List D) : (dTuple x).clean := by unfold dTuple; split <;> trivial
abbrev rTupleOf (K : PySem.W.Frag) : List V → Hp → VK → Prop := fun xs H Q => ∃ p ys, xs = [.ref p] ∧ ((SqL K H p ys ∧ ∀ l, H l = none → Q (.ref l) (upd H l (.tup ys))) ∨ (SqT K H p ys ∧ Q (.ref p) H))
theorem cd_tuple : CaD X (rTupleOf X.K) dTuple := by
  intro Z H xs ds Q s r h
  unfold dTuple at h
  split at h
  · obtain ⟨v, rfl, r0⟩ := rds1 r
    cases r0 with
    | lst h1 r1 =>
      rename_i q ys
      refine ⟨q, ys, rfl, .inl ⟨.inl (.inl (s _ _ h1)), fun l hl => ?_⟩⟩
      have x := Ext.new (o := .tup ys) s hl
      exact h _ _ _ x (.tup (.inl (.inl upd_same)) (r1.mono x.zz))
  · obtain ⟨v, rfl, r0⟩ := rds1 r
    cases r0 with
    | tup h1 r1 => exact ⟨_, _, rfl, .inr ⟨SqT.mono s h1, h _ _ _ (Ext.refl s) (.tup h1 r1)⟩⟩
  · exact h.elim
theorem ev_tuple (hm : X.mg "tuple" = none) (ha : Ea X W [a] Fs) (hg : Gl X "tuple" := by rfl) : Ev X W (.Call (.Name "tuple" p) [a] [] pos) (eA dTuple Fs) :=
  ev_A (fun h => pe_callTy call_tuple_of hg hm boot_tuple h (he := ha.se _ _ rfl) (hpl := ha.plt _ _ rfl _)) cd_tuple cl_tuple ha

/-- what gives a new object of one's own -/
abbrev QO (X : Cx) (Z H : Hp) (Q : VK) (d : D) : Prop := ∀ a Z' H', Ext Z H Z' H' → H a = none → Own X.w X.K Z' H' a d → Q (.ref a) H'
def CaO (X : Cx) (r : List V → Hp → VK → Prop) (f : List D → R D) : Prop := ∀ (Z H : Hp) (xs : List V) (ds : List D) (Q : VK), Same Z H → RDs X.w X.K Z xs ds → Post0 (f ds) (QO X Z H Q) → r xs H Q
theorem hnone {Z H Z' H' : Hp} (x : Ext Z H Z' H') {a : Addr} (h : H' a = none) : H a = none := by
  cases e : H a with
  | none => rfl
  | some u => have := x.hh a u e; rw [h] at this; cases this
theorem eo_A {r : List V → Hp → VK → Prop} {f : List D → R D} (h : ∀ {ta : TA}, PA X es ta → PE X e (tCB r ta)) (ho : CaO X r f) (cl : ∀ x, (f x).clean) (ha : Ea X W es Fs) : Eo X W e (eA f Fs) := by
  refine ⟨fun {Z0 H0 Z H σ ρ Q} r q => toAt (h pa_at) ?_⟩
  refine ha.go r (q.bind.mono fun d hd v Z1 H1 x1 r1 => ?_)
  refine ho Z1 H1 v d Q x1.zh r1 ?_
  have p := hd.to0 (cl d)
  cases hf : f d with
  | ok z => rw [hf] at p; exact fun v3 Z3 H3 x3 hn r3 => p v3 Z3 H3 (x1.trans x3) (hnone x1 hn) r3
  | exc x => rw [hf] at p; exact p.elim
  | stuck => rw [hf] at p; exact p.elim
def dList : List D → R D
  | [.list ds] => .ok (.list ds)
  | [.tuple ds] => .ok (.list ds)
  | _ => .stuck
theorem cl_list (x : List D) : (dList x).clean := by unfold dList; split <;> trivial
abbrev rListOf (K : PySem.W.Frag) : List V → Hp → VK → Prop := fun xs H Q => ∃ p ys, xs = [.ref p] ∧ (SqL K H p ys ∨ SqT K H p ys) ∧ ∀ l, H l = none → Q (.ref l) (upd H l (.lst ys))
theorem co_list : CaO X (rListOf X.K) dList := by
  intro Z H xs ds Q s r h
  unfold dList at h
  split at h
  · obtain ⟨v, rfl, r0⟩ := rds1 r
    cases r0 with
    | lst h1 r1 => exact ⟨_, _, rfl, .inl (.inl (.inl (s _ _ h1))), fun l hl => h _ _ _ (Ext.newO s hl) hl (.lst (zfree s hl) upd_same r1)⟩
  · obtain ⟨v, rfl, r0⟩ := rds1 r
    cases r0 with
    | tup h1 r1 => exact ⟨_, _, rfl, .inr (SqT.mono s h1), fun l hl => h _ _ _ (Ext.newO s hl) hl (.lst (zfree s hl) upd_same r1)⟩
  · exact h.elim
theorem eo_list (hm : X.mg "list" = none) (ha : Ea X W [a] Fs) (hg : Gl X "list" := by rfl) : Eo X W (.Call (.Name "list" p) [a] [] pos) (eA dList Fs) :=
  eo_A (fun h => pe_callTy call_list_of hg hm boot_list h (he := ha.se _ _ rfl) (hpl := ha.plt _ _ rfl _)) co_list cl_list ha

/-! ### list(range(..)), tuple(range(..)) -/
abbrev ER := Rho → R (Int × Int)
structure Er (X : Cx) (W : WX) (e : Expr) (F : ER) : Prop where
  go : ∀ {Z0 H0 Z H : Hp} {σ : St} {ρ : Rho} {Q : Int → Int → Hp → Prop}, Rep X.w X.K Z0 H0 Z H σ ρ → Post X W Z H σ (F ρ) (fun o => ∀ Z' H', Ext Z H Z' H' → Q o.1 o.2 H') →
    ∃ t, PRg X e t ∧ t σ H Q
def asI : D → R Int
  | .int i => .ok i
  | _ => .stuck
def rg1 (F : EV) : ER := fun ρ => F ρ >>= asI >>= fun n => .ok (0, n)
def rg2 (F G : EV) : ER := fun ρ => F ρ >>= asI >>= fun m => G ρ >>= asI >>= fun n => .ok (m, n)
theorem er_1 (hm : X.mg "range" = none) (ha : Ev X W a F) (hg : Gl X "range" := by rfl) (na : starEach [a] X.env = (false, eval a X.env) :: starEach [] X.env := by rfl) : Er X W (.Call (.Name "range" p) [a] [] pos) (rg1 F) := by
  refine ⟨fun {Z0 H0 Z H σ ρ Q} r q => ⟨_, prg_1 hg hm pe_at na, ?_⟩⟩
  refine ha.go r (q.bind.bind.mono fun d hd v Z1 H1 x1 r1 => ?_)
  cases d with
  | int i => cases r1; exact ⟨i, rfl, hd _ _ x1⟩
  | _ => exact hd.elim
theorem er_2 (hm : X.mg "range" = none) (ha : Ev X W a F) (hb : Ev X W b G) (hg : Gl X "range" := by rfl) (na : starEach [a, b] X.env = (false, eval a X.env) :: starEach [b] X.env := by rfl)
    (nb : starEach [b] X.env = (false, eval b X.env) :: starEach [] X.env := by rfl) (np : (backTo pos (starEach [b] X.env)).any (·.1) = false := by rfl) : Er X W (.Call (.Name "range" p) [a, b] [] pos) (rg2 F G) := by
  refine ⟨fun {Z0 H0 Z H σ ρ Q} r q => ⟨_, prg_2 hg hm pe_at pe_at na nb np, ?_⟩⟩
  refine ha.go r (q.bind.bind.mono fun d hd v Z1 H1 x1 r1 => ?_)
  cases d with
  | int i =>
    cases r1
    have hd : Post X W Z H σ (G ρ >>= asI >>= fun n => R.ok (i, n)) _ := hd
    refine hb.go (r.step x1) ((hd.bind.bind.step x1).mono fun d2 hd2 v2 Z2 H2 x2 r2 => ?_)
    cases d2 with
    | int j => cases r2; exact ⟨i, j, rfl, rfl, hd2 _ _ (x1.trans x2)⟩
    | _ => exact hd2.elim
  | _ => exact hd.elim
def rgD (a b : Int) : List D := (List.range (b - a).toNat).map fun i => PyData.int (a + (i : Nat))
def rgOkB (a b : Int) : Bool := decide (-(2 ^ 62) ≤ a) && decide (a < 2 ^ 62) && decide (-(2 ^ 62) ≤ b) && decide (b < 2 ^ 62) && fits (b - a).toNat
theorem rgOk_of {a b : Int} (h : rgOkB a b = true) : RgOk a b := by
  simp only [rgOkB, Bool.and_eq_true, decide_eq_true_eq] at h
  exact ⟨h.1.1.1.1, h.1.1.1.2, h.1.1.2, h.1.2, fits_le h.2⟩
theorem rds_rg {w : World} {K : PySem.W.Frag} {Z : Hp} (a b : Int) : RDs w K Z (rgV a b) (rgD a b) := by
  refine .of_get (by unfold rgV rgD; simp) fun i v d h1 h2 => ?_
  unfold rgV at h1
  unfold rgD at h2
  rw [List.getElem?_map] at h1 h2
  cases e : (List.range (b - a).toNat)[i]? with
  | none => rw [e] at h1; cases h1
  | some j => rw [e] at h1 h2; cases h1; cases h2; exact .int _
def eLstRg (F : ER) : EV := fun ρ => F ρ >>= fun o => guardR (rgOkB o.1 o.2) (.list (rgD o.1 o.2))
def eTupRg (F : ER) : EV := fun ρ => F ρ >>= fun o => guardR (rgOkB o.1 o.2) (.tuple (rgD o.1 o.2))
theorem Post.guard {α : Type} {Z H : Hp} {σ : St} {c : Bool} {a : α} {P : α → Prop} (h : Post X W Z H σ (guardR c a) P) : c = true ∧ P a := by
  unfold guardR at h
  split at h
  · exact ⟨by assumption, h⟩
  · exact h.elim
theorem eo_listRg {FR : ER} (hc : X.calm = true) (hm : X.mg "list" = none) (ha : Er X W a FR) (hg : Gl X "list" := by rfl) (na : starEach [a] X.env = (false, eval a X.env) :: starEach [] X.env := by rfl) : Eo X W (.Call (.Name "list" p) [a] [] pos) (eLstRg FR) := by
  refine ⟨fun {Z0 H0 Z H σ ρ Q} r q => ?_⟩
  obtain ⟨t, ht, hq⟩ := ha.go (Q := fun a b H1 => RgOk a b ∧ ∀ q, H1 q = none → Q (.ref q) (upd H1 q (.lst (rgV a b)))) r (q.bind.mono fun o ho Z1 H1 x1 => by
    obtain ⟨hok, ho⟩ := ho.guard
    refine ⟨rgOk_of hok, fun l hl => ?_⟩
    exact ho _ _ _ (x1.trans (Ext.newO x1.zh hl)) (hnone x1 hl) (.lst (zfree x1.zh hl) upd_same (rds_rg _ _)))
  exact toAt (pe_listRg hc hg hm ht na) hq
theorem ev_tupRg {FR : ER} (hc : X.calm = true) (hm : X.mg "tuple" = none) (ha : Er X W a FR) (hg : Gl X "tuple" := by rfl) (na : starEach [a] X.env = (false, eval a X.env) :: starEach [] X.env := by rfl) : Ev X W (.Call (.Name "tuple" p) [a] [] pos) (eTupRg FR) := by
  refine ⟨fun {Z0 H0 Z H σ ρ Q} r q => ?_⟩
  obtain ⟨t, ht, hq⟩ := ha.go (Q := fun a b H1 => RgOk a b ∧ ∀ q, H1 q = none → Q (.ref q) (upd H1 q (.tup (rgV a b)))) r (q.bind.mono fun o ho Z1 H1 x1 => by
    obtain ⟨hok, ho⟩ := ho.guard
    refine ⟨rgOk_of hok, fun l hl => ?_⟩
    exact ho _ _ _ (x1.trans (Ext.new (o := .tup (rgV o.1 o.2)) x1.zh hl)) (.tup (.inl (.inl upd_same)) (rds_rg _ _)))
  exact toAt (pe_tupRg hc hg hm ht na) hq
end
end PQ

/-! PQ.7: targets, what is walked, comprehensions -/
namespace PQ
open PySem PySem.Spec PyProof.Rows L2
open PySem.W (alike alikeAll dataLt rcLt_alike)

/-! ### targets -/
def PGat (X : Cx) (tg : Expr) (v : V) (σ : St) (H : Hp) (Q : St → Hp → Prop) : Prop := ∀ (pins : List (Addr × Obj)) (s : Shared) (u : Value), Inv X pins σ H s → RelV v u →
  wpAny (model X.prog X.w) X.A (assign tg X.env u) (fun _ s' => ∃ σ' H', Inv X pins σ' H' s' ∧ Q σ' H') X.xe s
theorem pg_at {X : Cx} {tg : Expr} : PG X tg (PGat X tg) := ⟨fun pins s σ H v u Q I r h => h pins s u I r⟩
theorem toAtG {X : Cx} {tg : Expr} {t : TG} {v : V} {σ : St} {H : Hp} {Q : St → Hp → Prop} (h : PG X tg t) (q : t v σ H Q) : PGat X tg v σ H Q := fun pins s u I r => h.run pins s σ H v u Q I r q
def PGsat (X : Cx) (ts : List Expr) (vs : List V) (σ : St) (H : Hp) (Q : St → Hp → Prop) : Prop := ∀ (pins : List (Addr × Obj)) (s : Shared) (us : List Value), Inv X pins σ H s → Vals vs us →
  wpAny (model X.prog X.w) X.A (assignInOrder ((assignEach ts X.env).map (·.2)) us) (fun _ s' => ∃ σ' H', Inv X pins σ' H' s' ∧ Q σ' H') X.xe s
theorem pgs_at {X : Cx} {ts : List Expr} : PGs X ts (PGsat X ts) := ⟨fun pins s σ H v u Q I r h => h pins s u I r⟩
theorem toAtGs {X : Cx} {ts : List Expr} {t : TGs} {v : List V} {σ : St} {H : Hp} {Q : St → Hp → Prop} (h : PGs X ts t) (q : t v σ H Q) : PGsat X ts v σ H Q := fun pins s u I r => h.run pins s σ H v u Q I r q

/-- the slots outside js stand -/
structure Outside (js : List Nat) (σ σ' : St) : Prop where
  len : σ'.length = σ.length
  at' : ∀ j, j ∉ js → σ'[j]? = σ[j]?
theorem Outside.refl {js : List Nat} {σ : St} : Outside js σ σ := ⟨rfl, fun _ _ => rfl⟩
theorem Outside.trans {js : List Nat} {σ σ' σ'' : St} (a : Outside js σ σ') (b : Outside js σ' σ'') : Outside js σ σ'' := ⟨b.len.trans a.len, fun j h => (b.at' j h).trans (a.at' j h)⟩
theorem Outside.mono {js ks : List Nat} {σ σ' : St} (a : Outside js σ σ') (h : ∀ j ∈ js, j ∈ ks) : Outside ks σ σ' := ⟨a.len, fun j hj => a.at' j fun z => hj (h j z)⟩
theorem wipe_at : ∀ (vs : List Nat) (σ : St) (j : Nat), (wipe σ vs)[j]? = if j ∈ vs ∧ j < σ.length then some none else σ[j]?
  | [], σ, j => by simp [wipe]
  | v :: vs, σ, j => by
    rw [wipe, List.getElem?_set, wipe_length, wipe_at vs σ j]
    by_cases hj : v = j
    · subst hj
      by_cases hl : v < σ.length
      · simp [hl]
      · simp [hl]
    · have : ¬ j = v := fun e => hj e.symm
      simp [hj, this]
theorem Outside.wipe {js : List Nat} {σ σ' : St} (h : Outside js σ σ') : L2.wipe σ' js = L2.wipe σ js := by
  apply List.ext_getElem?
  intro j
  rw [wipe_at, wipe_at, h.len]
  by_cases hj : j ∈ js
  · by_cases hl : j < σ.length
    · simp [hj, hl]
    · have h1 : σ.length ≤ j := by omega
      have h2 : σ'.length ≤ j := by rw [h.len]; exact h1
      simp [hl, List.getElem?_eq_none h1, List.getElem?_eq_none h2]
  · simp [hj]
    exact h.at' j hj
def wipeR (ρ : Rho) : List Nat → Rho
  | [] => ρ
  | v :: vs => (wipeR ρ vs).set v .u
theorem Rep.wipe {w : World} {K : PySem.W.Frag} {Z0 H0 Z H : Hp} {σ : St} {ρ : Rho} (r : Rep w K Z0 H0 Z H σ ρ) : ∀ vs : List Nat, Rep w K Z0 H0 Z H (L2.wipe σ vs) (wipeR ρ vs)
  | [] => r
  | v :: vs => by
    unfold L2.wipe wipeR
    exact (Rep.wipe r vs).setU v none

abbrev EG := D → Rho → R Rho
structure Eg (X : Cx) (tg : Expr) (A : EG) (js : List Nat) : Prop where
  go : ∀ {Z0 H0 Z H : Hp} {σ : St} {ρ : Rho} {v : V} {d : D} {Q : St → Hp → Prop}, Rep X.w X.K Z0 H0 Z H σ ρ → RD X.w X.K Z v d → Post0 (A d ρ) (fun ρ' => ∀ σ', Outside js σ σ' → Rep X.w X.K Z0 H0 Z H σ' ρ' → Q σ' H) → PGat X tg v σ H Q
  cl : ∀ d ρ, (A d ρ).clean
structure Egs (X : Cx) (ts : List Expr) (A : List D → Rho → R Rho) (js : List Nat) : Prop where
  go : ∀ {Z0 H0 Z H : Hp} {σ : St} {ρ : Rho} {vs : List V} {ds : List D} {Q : St → Hp → Prop}, Rep X.w X.K Z0 H0 Z H σ ρ → RDs X.w X.K Z vs ds → Post0 (A ds ρ) (fun ρ' => ∀ σ', Outside js σ σ' → Rep X.w X.K Z0 H0 Z H σ' ρ' → Q σ' H) → PGsat X ts vs σ H Q
  cl : ∀ d ρ, (A d ρ).clean
  n : ∀ ds ρ ρ', A ds ρ = .ok ρ' → ds.length = ts.length
def aName (i : Nat) : EG := fun d ρ => .ok (ρ.set i (.f d))
def aNil : List D → Rho → R Rho := fun ds ρ => match ds with
  | [] => .ok ρ
  | _ => .stuck
def aCons (A : EG) (B : List D → Rho → R Rho) : List D → Rho → R Rho := fun ds ρ => match ds with
  | d :: ds => A d ρ >>= fun ρ' => B ds ρ'
  | [] => .stuck
def aTup (B : List D → Rho → R Rho) : EG := fun d ρ => match d with
  | .tuple ds => B ds ρ
  | _ => .stuck
section
variable {X : Cx} {W : WX} {e : Expr} {es : List Expr} {pos : Pos}
theorem eg_name (i : Nat) {x : Str} (hN : X.N.Nodup) (hi : X.N[i]? = some x := by rfl) (hx : Loc X.env.scope x := by first | exact Or.inl rfl | exact Or.inr rfl) (hf : X.fn x = true ∨ X.env.scope.names.lookup x = some .local := by first | exact .inl rfl | exact .inr rfl) : Eg X (.Name x pos) (aName i) [i] := by
  refine ⟨fun {Z0 H0 Z H σ ρ v d Q} r rd q => toAtG (pg_name hN hi hx hf) ?_, fun _ _ => trivial⟩
  refine q _ ⟨by simp, fun j hj => ?_⟩ (r.setF i rd)
  rw [List.getElem?_set_ne (fun e => hj (by simp [e]))]
theorem egs_nil : Egs X [] aNil [] := by
  refine ⟨fun {Z0 H0 Z H σ ρ vs ds Q} r rd q => toAtGs pgs_nil ?_, fun d ρ => by cases d <;> trivial, fun ds ρ ρ' h => by cases ds <;> first | rfl | cases h⟩
  cases rd with
  | nil => exact ⟨rfl, q _ Outside.refl r⟩
  | cons _ _ => exact q.elim
theorem egs_cons {A : EG} {B : List D → Rho → R Rho} {js ks : List Nat} (h1 : Eg X e A js) (h2 : Egs X es B ks) (hs : (assignEach (e :: es) X.env).map (·.2) = assign e X.env :: (assignEach es X.env).map (·.2) := by rfl) :
    Egs X (e :: es) (aCons A B) (js ++ ks) := by
  refine ⟨fun {Z0 H0 Z H σ ρ vs ds Q} r rd q => toAtGs (pgs_cons pg_at pgs_at hs) ?_, fun d ρ => ?_, fun ds ρ ρ' h => ?_⟩
  · cases rd with
    | nil => exact q.elim
    | cons rv rt =>
      refine ⟨_, _, rfl, ?_⟩
      rename_i v d vs' ds'
      have cl := h1.cl d ρ
      have q : Post0 (A d ρ >>= fun ρ' => B ds' ρ') _ := q
      cases e1 : A d ρ with
      | ok ρ1 =>
        rw [e1] at q
        refine h1.go r rv ?_
        rw [e1]
        intro σ1 o1 r1
        refine h2.go r1 rt ?_
        have cl2 := h2.cl ds' ρ1
        have q : Post0 (B ds' ρ1) _ := q
        cases e2 : B ds' ρ1 with
        | ok ρ2 =>
          rw [e2] at q
          intro σ2 o2 r2
          exact q _ ((o1.mono fun j hj => List.mem_append_left _ hj).trans (o2.mono fun j hj => List.mem_append_right _ hj)) r2
        | exc x => rw [e2] at q; exact q.elim
        | stuck => rw [e2] at q; exact q.elim
      | exc x => rw [e1] at cl; exact cl.elim
      | stuck => rw [e1] at q; exact q.elim
  · cases d with
    | nil => trivial
    | cons d ds => exact clean_bind (h1.cl d ρ) fun ρ' => h2.cl ds ρ'
  · cases ds with
    | nil => cases h
    | cons d ds =>
      have h : (A d ρ >>= fun ρ' => B ds ρ') = .ok ρ' := h
      cases e1 : A d ρ with
      | ok ρ1 =>
        rw [e1] at h
        rw [List.length_cons, List.length_cons, h2.n ds ρ1 ρ' h]
      | exc x => rw [e1] at h; cases h
      | stuck => rw [e1] at h; cases h
theorem eg_tup {B : List D → Rho → R Rho} {js : List Nat} {k : Nat} (hc : X.calm = true) (h : Egs X es B js) (hn : (assignEach es X.env).length = es.length := by rfl) (hst : (assignEach es X.env).findIdx? (·.1) = none := by rfl) : Eg X (.Tuple es k pos) (aTup B) js := by
  refine ⟨fun {Z0 H0 Z H σ ρ v d Q} r rd q => toAtG (pg_tup hc pgs_at hn hst) ?_, fun d ρ => ?_⟩
  · cases d with
    | tuple ds =>
      cases rd with
      | tup h1 r1 =>
        refine ⟨_, _, rfl, SqT.mono r.zh h1, ?_, h.go r r1 q⟩
        rw [r1.length]
        have q : Post0 (B ds ρ) _ := q
        cases e1 : B ds ρ with
        | ok ρ1 => exact h.n ds ρ ρ1 e1
        | exc x => rw [e1] at q; exact q.elim
        | stuck => rw [e1] at q; exact q.elim
    | _ => exact q.elim
  · cases d <;> first | trivial | exact h.cl _ _
end

/-! ### what is walked -/
def PIat (X : Cx) (tg iter : Expr) (σ : St) (H : Hp) (R' : It → Hp → Prop) : Prop := ∀ (pins : List (Addr × Obj)) (s : Shared), Inv X pins σ H s →
  wpAny (model X.prog X.w) X.A (eval iter X.env) (fun v s1 => wpAny (model X.prog X.w) X.A (pyIter v) (PIE X pins σ tg R') X.xe s1) X.xe s
theorem pi_at {X : Cx} {tg iter : Expr} : PI X tg iter (PIat X tg iter) := ⟨fun pins s σ H R' I h => h pins s I⟩
theorem toAtI {X : Cx} {tg iter : Expr} {t : TI} {σ : St} {H : Hp} {Q : It → Hp → Prop} (h : PI X tg iter t) (q : t σ H Q) : PIat X tg iter σ H Q := fun pins s I => h.run pins s σ H Q I q
/-- J yields ds while Z stands -/
structure ItOk (X : Cx) (J : It) (Z : Hp) (ds : List D) : Prop where
  stop : ∀ {Z' H' : Hp}, Same Z Z' → Same Z' H' → J.stop ds.length H'
  go : ∀ {i : Nat} {Z' H' : Hp} {d : D}, Same Z Z' → Same Z' H' → ds[i]? = some d → J.go i H'
  yld : ∀ {i : Nat} {Z' H' : Hp} {d : D} {x : V} {H'' : Hp}, Same Z Z' → Same Z' H' → ds[i]? = some d → J.yld i H' x H'' → ∃ Z'', Ext Z' H' Z'' H'' ∧ RD X.w X.K Z'' x d
abbrev EI := Rho → R (List D)
structure Ei (X : Cx) (W : WX) (tg iter : Expr) (F : EI) : Prop where
  go : ∀ {Z0 H0 Z H : Hp} {σ : St} {ρ : Rho} {Q : It → Hp → Prop}, Rep X.w X.K Z0 H0 Z H σ ρ → Post X W Z H σ (F ρ) (fun ds => ∀ J Z' H', Ext Z H Z' H' → ItOk X J Z' ds → Q J H') → PIat X tg iter σ H Q
section
variable {X : Cx} {W : WX} {a b c e tg : Expr} {es : List Expr} {pos p : Pos} {F G : EV} {Fs : EA}
theorem io_list {Z : Hp} {l : Addr} {xs : List V} {ds : List D} (h : Z l = some (.lst xs)) (r : RDs X.w X.K Z xs ds) : ItOk X (Itl X.K l) Z ds := by
  have at' : ∀ {Z' H' : Hp}, Same Z Z' → Same Z' H' → SqL X.K H' l xs := fun s1 s2 => .inl (.inl (s2 _ _ (s1 _ _ h)))
  refine ⟨fun s1 s2 => ⟨xs, at' s1 s2, by rw [r.length]; exact Nat.le_refl _⟩, fun s1 s2 e => ?_, fun s1 s2 e y => ?_⟩
  · obtain ⟨v, hv, _⟩ := r.get e
    exact ⟨xs, v, at' s1 s2, hv⟩
  · obtain ⟨rfl, hy⟩ := y
    obtain ⟨v, hv, rv⟩ := r.get e
    have := hy xs (at' s1 s2)
    rw [hv] at this; cases this
    exact ⟨_, Ext.refl s2, rv.mono s1⟩
theorem io_tup {Z : Hp} {l : Addr} {xs : List V} {ds : List D} (h : SqT X.K Z l xs) (r : RDs X.w X.K Z xs ds) : ItOk X (Itt X.K l) Z ds := by
  have at' : ∀ {Z' H' : Hp}, Same Z Z' → Same Z' H' → SqT X.K H' l xs := fun s1 s2 => SqT.mono s2 (SqT.mono s1 h)
  refine ⟨fun s1 s2 => ⟨xs, at' s1 s2, by rw [r.length]; exact Nat.le_refl _⟩, fun s1 s2 e => ?_, fun s1 s2 e y => ?_⟩
  · obtain ⟨v, hv, _⟩ := r.get e
    exact ⟨xs, v, at' s1 s2, hv⟩
  · obtain ⟨rfl, hy⟩ := y
    obtain ⟨v, hv, rv⟩ := r.get e
    have := hy xs (at' s1 s2)
    rw [hv] at this; cases this
    exact ⟨_, Ext.refl s2, rv.mono s1⟩
def signs (z : Str) : List D := z.cps.toList.map fun c => .str ⟨#[c]⟩
theorem io_str {Z : Hp} {z : Str} : ItOk X (Its z) Z (signs z) := by
  have el : (signs z).length = z.cps.size := by unfold signs; rw [List.length_map, Array.length_toList]
  have ea : ∀ {i : Nat} {d : D}, (signs z)[i]? = some d → ∃ c, z.cps[i]? = some c ∧ d = .str ⟨#[c]⟩ := fun {i d} e => by
    unfold signs at e
    rw [List.getElem?_map, Array.getElem?_toList] at e
    cases h : z.cps[i]? with
    | none => rw [h] at e; cases e
    | some c => rw [h] at e; cases e; exact ⟨c, rfl, rfl⟩
  refine ⟨fun s1 s2 => Nat.le_of_eq el.symm, fun s1 s2 e => ?_, fun s1 s2 e y => ?_⟩
  · obtain ⟨c, hc, _⟩ := ea e
    exact (Array.getElem?_eq_some_iff.mp hc).1
  · obtain ⟨c, hc, rfl⟩ := ea e
    obtain ⟨rfl, c', hc', rfl⟩ := y
    rw [hc] at hc'; cases hc'
    exact ⟨_, Ext.refl s2, .str _⟩
def seqOf : D → R (List D)
  | .list ds => .ok ds
  | .tuple ds => .ok ds
  | .str z => .ok (signs z)
  | _ => .stuck
def iSeq (F : EV) : EI := fun ρ => F ρ >>= seqOf
theorem ei_seq (ha : Ev X W e F) : Ei X W tg e (iSeq F) := by
  refine ⟨fun {Z0 H0 Z H σ ρ Q} r q => ?_⟩
  unfold iSeq at q
  have g := ha.go r (Q := fun x H1 => ∃ a, x = V.ref a ∧ (∃ xs, SqL X.K H1 a xs) ∧ Q (Itl X.K a) H1)
  have g2 := ha.go r (Q := fun x H1 => ∃ a, x = V.ref a ∧ (∃ xs, SqT X.K H1 a xs) ∧ Q (Itt X.K a) H1)
  have g3 := ha.go r (Q := fun x H1 => ∃ z, x = V.str z ∧ Q (Its z) H1)
  cases h : F ρ with
  | ok d =>
    rw [h] at q g g2 g3
    cases d with
    | list ds =>
      refine toAtI (pi_list pe_at) (g fun v Z' H' x rv => ?_)
      cases rv with
      | lst h1 r1 => exact ⟨_, rfl, ⟨_, .inl (.inl (x.zh _ _ h1))⟩, q _ _ _ x (io_list h1 r1)⟩
    | tuple ds =>
      refine toAtI (pi_tup pe_at) (g2 fun v Z' H' x rv => ?_)
      cases rv with
      | tup h1 r1 => exact ⟨_, rfl, ⟨_, SqT.mono x.zh h1⟩, q _ _ _ x (io_tup h1 r1)⟩
    | str z =>
      refine toAtI (pi_str pe_at) (g3 fun v Z' H' x rv => ?_)
      cases rv with
      | str _ => exact ⟨_, rfl, q _ _ _ x io_str⟩
    | _ => exact q.elim
  | exc x =>
    rw [h] at q g
    exact toAtI (pi_list pe_at) (g q)
  | stuck => rw [h] at q; exact q.elim

/-! range -/
def big62 (i : Int) : Bool := match i with
  | .ofNat n => Nat.blt n 4611686018427387904
  | .negSucc n => Nat.blt n 4611686018427387904
theorem big62_of {i : Int} (h : big62 i = true) : -(2 ^ 62) ≤ i ∧ i < 2 ^ 62 := by
  cases i with
  | ofNat n =>
    have h : Nat.blt n 4611686018427387904 = true := h
    have h : n < 4611686018427387904 := by
      have := Nat.le_of_ble_eq_true h
      omega
    have e : (Int.ofNat n) = (n : Int) := rfl
    rw [e]
    omega
  | negSucc n =>
    have h : Nat.blt n 4611686018427387904 = true := h
    have h : n < 4611686018427387904 := by
      have := Nat.le_of_ble_eq_true h
      omega
    have e : (Int.negSucc n) = -((n : Int) + 1) := by omega
    rw [e]
    omega
theorem io_rng {Z : Hp} (lo hi : Int) : ItOk X (Itr lo (hi - lo).toNat) Z (rgD lo hi) := by
  have el : (rgD lo hi).length = (hi - lo).toNat := by unfold rgD; simp
  refine ⟨fun s1 s2 => Nat.le_of_eq el.symm, fun {i Z' H' d} s1 s2 e => ?_, fun {i Z' H' d x H''} s1 s2 e y => ?_⟩
  · rw [← el]; exact (List.getElem?_eq_some_iff.mp e).1
  · obtain ⟨rfl, rfl⟩ := y
    have hi' : i < (rgD lo hi).length := (List.getElem?_eq_some_iff.mp e).1
    unfold rgD at e
    rw [List.getElem?_map, List.getElem?_range (by rw [el] at hi'; exact hi')] at e
    cases e
    exact ⟨_, Ext.refl s2, .int _⟩
def iRg1 (F : EV) : EI := fun ρ => F ρ >>= asI >>= fun n => guardR (big62 n) (rgD 0 n)
def iRg2 (F G : EV) : EI := fun ρ => F ρ >>= asI >>= fun m => G ρ >>= asI >>= fun n => guardR (big62 m && big62 n) (rgD m n)
theorem ei_range1 (hm : X.mg "range" = none) (ha : Ev X W a F) (hg : Gl X "range" := by rfl) (na : starEach [a] X.env = (false, eval a X.env) :: starEach [] X.env := by rfl) (hs : starEach [a] X.env = [(false, eval a X.env)] := by rfl) : Ei X W tg (.Call (.Name "range" p) [a] [] pos) (iRg1 F) := by
  refine ⟨fun {Z0 H0 Z H σ ρ Q} r q => toAtI (pi_range1 hg hm (pa_cons pe_at pa_nil na) hs) ?_⟩
  refine ha.go r (q.bind.bind.mono fun d hd v Z1 H1 x1 r1 => ?_)
  cases d with
  | int n =>
    cases r1
    have hd : Post X W Z H σ (guardR (big62 n) (rgD 0 n)) _ := hd
    obtain ⟨hb, hd⟩ := hd.guard
    obtain ⟨b1, b2⟩ := big62_of hb
    refine ⟨n, rfl, b1, b2, hd _ _ _ x1 ?_⟩
    have := io_rng (X := X) (Z := Z1) 0 n
    rw [Int.sub_zero] at this
    exact this
  | _ => exact hd.elim
theorem ei_range2 (hm : X.mg "range" = none) (ha : Ev X W a F) (hb : Ev X W b G) (hg : Gl X "range" := by rfl) (na : starEach [a, b] X.env = (false, eval a X.env) :: starEach [b] X.env := by rfl) (nb : starEach [b] X.env = (false, eval b X.env) :: starEach [] X.env := by rfl)
    (hs : starEach [a, b] X.env = [(false, eval a X.env), (false, eval b X.env)] := by rfl) (hs2 : starEach [b] X.env = [(false, eval b X.env)] := by rfl) : Ei X W tg (.Call (.Name "range" p) [a, b] [] pos) (iRg2 F G) := by
  refine ⟨fun {Z0 H0 Z H σ ρ Q} r q => toAtI (pi_range2 hg hm (pa_cons pe_at (pa_cons pe_at pa_nil nb) na) hs hs2) ?_⟩
  refine ha.go r (q.bind.bind.mono fun d hd v Z1 H1 x1 r1 => ?_)
  cases d with
  | int m =>
    cases r1
    have hd : Post X W Z H σ (G ρ >>= asI >>= fun n => guardR (big62 m && big62 n) (rgD m n)) _ := hd
    refine hb.go (r.step x1) ((hd.bind.bind.step x1).mono fun d2 hd2 v2 Z2 H2 x2 r2 => ?_)
    cases d2 with
    | int n =>
      cases r2
      have hd2 : Post X W Z H σ (guardR (big62 m && big62 n) (rgD m n)) _ := hd2
      obtain ⟨hb, hd2⟩ := hd2.guard
      rw [Bool.and_eq_true] at hb
      obtain ⟨b1, b2⟩ := big62_of hb.1
      obtain ⟨b3, b4⟩ := big62_of hb.2
      exact ⟨m, n, rfl, ⟨b1, b2, b3, b4⟩, hd2 _ _ _ (x1.trans x2) (io_rng m n)⟩
    | _ => exact hd2.elim
  | _ => exact hd.elim
end

/-! ### comprehensions -/
def nx {α : Type} : R α → R α
  | .exc _ => .stuck
  | r => r
def compR (step : D → R (Option D)) : List D → R (List D)
  | [] => .ok []
  | d :: ds => step d >>= fun o => compR step ds >>= fun ys => .ok (o.toList ++ ys)
theorem compR_snoc (step : D → R (Option D)) (d : D) : ∀ ds : List D, compR step (ds ++ [d]) = compR step ds >>= fun ys => step d >>= fun o => .ok (ys ++ o.toList)
  | [] => by
    simp only [List.nil_append, compR, R.ok_bind]
    cases step d with
    | ok o => simp
    | exc x => rfl
    | stuck => rfl
  | e :: ds => by
    rw [List.cons_append, compR, compR_snoc step d ds, compR]
    cases step e with
    | ok o =>
      cases compR step ds with
      | ok ys =>
        cases step d with
        | ok o2 => simp
        | exc x => rfl
        | stuck => rfl
      | exc x => rfl
      | stuck => rfl
    | exc x => rfl
    | stuck => rfl
theorem compR_take {step : D → R (Option D)} : ∀ {ds : List D} {ys : List D}, compR step ds = .ok ys → ∀ i, ∃ zs, compR step (ds.take i) = .ok zs
  | [], _, _, i => ⟨[], by simp [compR]⟩
  | d :: ds, ys, h, 0 => ⟨[], by simp [compR]⟩
  | d :: ds, ys, h, i + 1 => by
    rw [compR] at h
    rw [List.take_succ_cons, compR]
    cases e : step d with
    | ok o =>
      rw [e, R.ok_bind] at h
      cases e2 : compR step ds with
      | ok zs =>
        obtain ⟨zs', e3⟩ := compR_take e2 i
        exact ⟨_, by rw [R.ok_bind, e3, R.ok_bind]⟩
      | exc x => rw [e2] at h; cases h
      | stuck => rw [e2] at h; cases h
    | exc x => rw [e] at h; cases h
    | stuck => rw [e] at h; cases h
abbrev WF : WX := fun _ _ _ _ => False
/-- one turn -/
def cStep (A : EG) (T : ET) (F : EV) (ρ : Rho) (d : D) : R (Option D) := nx (A d ρ >>= fun ρ2 => T ρ2 >>= fun b => if b = true then F ρ2 >>= fun y => .ok (some y) else .ok none)
def eComp (Fi : EI) (A : EG) (T : ET) (F : EV) (vs : List Nat) : EV := fun ρ => Fi ρ >>= fun ds => guardR (fits ds.length) ds >>= fun ds => nx (compR (cStep A T F (wipeR ρ vs)) ds) >>= fun ys => .ok (.list ys)
def tTrue : ET := fun _ => .ok true
/-- the tests of a clause -/
structure Ets (X : Cx) (ifs : List Expr) (T : ET) : Prop where
  go : ∀ {Z0 H0 Z H : Hp} {σ : St} {ρ : Rho} {Q : Bool → Hp → Prop}, Rep X.w X.K Z0 H0 Z H σ ρ → Post X WF Z H σ (T ρ) (QB Z H Q) → ∃ t, PTs X ifs t ∧ t σ H Q
theorem ets_nil {X : Cx} : Ets X [] tTrue := ⟨fun r q => ⟨_, pts_nil, q _ _ (Ext.refl r.zh)⟩⟩
theorem ets_one {X : Cx} {c : Expr} {T : ET} (h : Et X WF c T) : Ets X [c] T := ⟨fun r q => ⟨_, pts_one pt_at, h.go r q⟩⟩
def PTsat (X : Cx) (ifs : List Expr) (σ : St) (H : Hp) (Q : Bool → Hp → Prop) : Prop := ∃ t, PTs X ifs t ∧ t σ H Q
theorem pts_at {X : Cx} {ifs : List Expr} : PTs X ifs (PTsat X ifs) := ⟨fun pins s σ H Q I ⟨t, h, q⟩ => h.run pins s σ H Q I q⟩
section
variable {X : Cx} {W : WX} {tg iter elt : Expr} {ifs : List Expr} {scope : Scope} {own : List (Str × Nat)} {pos p : Pos} {Fi : EI} {A : EG} {T : ET} {F : EV} {js : List Nat}
theorem wf_post {α : Type} {X : Cx} {Z H : Hp} {σ : St} {r : R α} {P : α → Prop} (h : Post0 (nx r) P) : Post X WF Z H σ r P := by
  cases r with
  | ok a => exact h
  | exc x => exact h.elim
  | stuck => exact h.elim
theorem lc_read (hi : Ei X W tg iter Fi) (hg : ∀ (s : Shared) (H : Hp) (C : Addr) (cl : List (Str × Addr)) (fp : List Addr), Eg (X.blk s H scope (compEnvC scope cl C X.env) fp) tg A js) (hjs : ∀ j ∈ js, j ∈ own.map (·.2))
    (ht : ∀ (s : Shared) (H : Hp) (C : Addr) (cl : List (Str × Addr)) (fp : List Addr), Ets (X.blk s H scope (compEnvC scope cl C X.env) fp) ifs T)
    (he : ∀ (s : Shared) (H : Hp) (C : Addr) (cl : List (Str × Addr)) (fp : List Addr), Ev (X.blk s H scope (compEnvC scope cl C X.env) fp) WF elt F)
    {Z0 H0 Z H : Hp} {σ : St} {ρ : Rho} {Q : VK} (r : Rep X.w X.K Z0 H0 Z H σ ρ) (q : Post X W Z H σ (eComp Fi A T F (own.map (·.2)) ρ) (QO X Z H Q)) :
    tLc (PIat X tg iter) (fun v σ H Q => ∀ s H0 C cl fp, PGat (X.blk s H0 scope (compEnvC scope cl C X.env) fp) tg v σ H Q) (fun σ H Q => ∀ s H0 C cl fp, PTsat (X.blk s H0 scope (compEnvC scope cl C X.env) fp) ifs σ H Q)
      (fun σ H Q => ∀ s H0 C cl fp, PEat (X.blk s H0 scope (compEnvC scope cl C X.env) fp) elt σ H Q) (own.map (·.2)) σ H Q := by
  generalize hvs : own.map (·.2) = vs at *
  refine hi.go r (q.bind.mono fun ds q J Z1 H1 x1 io D hD => ?_)
  have q := q.bind
  unfold guardR at q
  split at q
  rotate_left
  · exact q.elim
  rename_i hfit
  have hfit := fits_le hfit
  have q : Post X W Z H σ (nx (compR (cStep A T F (wipeR ρ vs)) ds) >>= fun ys => R.ok (PyData.list ys)) (QO X Z H Q) := q
  cases hC : compR (cStep A T F (wipeR ρ vs)) ds with
  | exc x => rw [hC] at q; exact q.elim
  | stuck => rw [hC] at q; exact q.elim
  | ok all =>
    rw [hC] at q
    have q : QO X Z H Q (.list all) := q
    refine ⟨fun i m Hc => m = ds.length - i ∧ i ≤ ds.length ∧ ∃ Zc acc ys, Ext Z1 H1 Zc Hc ∧ Zc D = none ∧ Hc D = some (.lst acc) ∧ acc.length ≤ i ∧ RDs X.w X.K Zc acc ys ∧ compR (cStep A T F (wipeR ρ vs)) (ds.take i) = .ok ys,
      ⟨ds.length, by simp, Nat.zero_le _, Z1, [], [], Ext.newO x1.zh hD, zfree x1.zh hD, upd_same, Nat.le_refl _, .nil, rfl⟩, ?_⟩
    rintro i m Hc ⟨rfl, hle, Zc, acc, ys, xc, zD, hcD, hal, racc, hcomp⟩
    by_cases hlt : i < ds.length
    · have hd : ds[i]? = some ds[i] := by simp [hlt]
      generalize ds[i] = d at hd
      refine .inr ⟨io.go xc.zz xc.zh hd, fun H' => i + 1 ≤ ds.length ∧ ∃ Zc acc ys, Ext Z1 H1 Zc H' ∧ Zc D = none ∧ H' D = some (.lst acc) ∧ acc.length ≤ i + 1 ∧ RDs X.w X.K Zc acc ys ∧ compR (cStep A T F (wipeR ρ vs)) (ds.take (i + 1)) = .ok ys,
        fun H' h => ⟨ds.length - (i + 1), by omega, rfl, h⟩, fun x H' hy s H00 C cl fp => ?_⟩
      obtain ⟨Z2, x2, rx⟩ := io.yld xc.zz xc.zh hd hy
      have x12 := xc.trans x2
      have r2 : Rep X.w X.K Z0 H0 Z2 H' (L2.wipe σ vs) (wipeR ρ vs) := (r.step (x1.trans x12)).wipe vs
      obtain ⟨zs, hzs⟩ := compR_take hC (i + 1)
      have hsn : compR (cStep A T F (wipeR ρ vs)) (ds.take (i + 1)) = compR (cStep A T F (wipeR ρ vs)) (ds.take i) >>= fun ys => cStep A T F (wipeR ρ vs) d >>= fun o => .ok (ys ++ o.toList) := by
        rw [List.take_add_one, hd]
        exact compR_snoc _ _ _
      rw [hcomp, hzs] at hsn
      have hsn : R.ok zs = cStep A T F (wipeR ρ vs) d >>= fun o => R.ok (ys ++ o.toList) := hsn
      have z2D : Z2 D = none := x2.nw D _ zD hcD
      have h2D : H' D = some (.lst acc) := x2.hh _ _ hcD
      unfold cStep at hsn
      cases e1 : A d (wipeR ρ vs) with
      | exc x => rw [e1] at hsn; cases hsn
      | stuck => rw [e1] at hsn; cases hsn
      | ok ρ2 =>
        rw [e1, R.ok_bind] at hsn
        refine (hg s H00 C cl fp).go r2 rx ?_
        rw [e1]
        intro σ2 o2 rr2
        refine ⟨(o2.mono hjs).wipe.trans ?_, fun s' H0' C' cl' fp' => ?_⟩
        · apply List.ext_getElem?
          intro j
          rw [wipe_at, wipe_at, wipe_length]
          split <;> rfl
        cases e2 : T ρ2 with
        | exc x => rw [e2] at hsn; cases hsn
        | stuck => rw [e2] at hsn; cases hsn
        | ok b =>
          rw [e2, R.ok_bind] at hsn
          refine (ht s' H0' C' cl' fp').go rr2 ?_
          rw [e2]
          intro Z3 H3 x3
          cases b with
          | false =>
            rw [if_neg Bool.false_ne_true] at hsn ⊢
            have e3 : zs = ys := by
              have hsn : R.ok zs = R.ok (ys ++ []) := hsn
              cases hsn; simp
            subst e3
            exact ⟨hlt, Z3, acc, zs, x12.trans x3, x3.nw D _ z2D h2D, x3.hh _ _ h2D, Nat.le_succ_of_le hal, racc.mono (x2.trans x3).zz, hzs⟩
          | true =>
            rw [if_pos rfl] at hsn ⊢
            intro s2 H02 C2 cl2 fp2
            cases e3 : F ρ2 with
            | exc x => rw [e3] at hsn; cases hsn
            | stuck => rw [e3] at hsn; cases hsn
            | ok y =>
              rw [e3] at hsn
              have e4 : zs = ys ++ [y] := by
                have hsn : R.ok zs = R.ok (ys ++ [y]) := hsn
                cases hsn; rfl
              subst e4
              refine (he s2 H02 C2 cl2 fp2).go (rr2.step x3) ?_
              rw [e3]
              intro v Z4 H4 x4 rv
              have x34 := x3.trans x4
              have h4D : H4 D = some (.lst acc) := x34.hh _ _ h2D
              have z4D : Z4 D = none := x34.nw D _ z2D h2D
              refine ⟨acc, h4D, Nat.lt_of_lt_of_le (Nat.lt_of_le_of_lt hal hlt) hfit, hlt, Z4, acc ++ [v], ys ++ [y], ?_, z4D, upd_same, by rw [List.length_append]; exact Nat.add_le_add_right hal 1, ?_, hzs⟩
              · have xx := x12.trans x34
                refine ⟨fun b u hb => ?_, xx.zz, fun b u hb => ?_, xx.nw⟩
                · rw [upd_ne (ne_of_none hb hD)]; exact xx.hh b u hb
                · rw [upd_ne (fun z => by rw [z, z4D] at hb; cases hb)]; exact xx.zh b u hb
              · exact (racc.mono (x2.trans x34).zz).append (.cons rv .nil)
    · have ei : i = ds.length := by omega
      subst ei
      refine .inl ⟨io.stop xc.zz xc.zh, ?_⟩
      rw [List.take_length, hC] at hcomp
      cases hcomp
      exact q D Zc Hc (x1.trans xc) (hnone x1 hD) (.lst zD hcD racc)
theorem eo_comp (hc : X.calm = true) (hN : X.N.Nodup) (hi : Ei X W tg iter Fi) (ok : BlkOk X.N X.env.scope scope own) (hg : ∀ (s : Shared) (H : Hp) (C : Addr) (cl : List (Str × Addr)) (fp : List Addr), Eg (X.blk s H scope (compEnvC scope cl C X.env) fp) tg A js) (hjs : ∀ j ∈ js, j ∈ own.map (·.2))
    (ht : ∀ (s : Shared) (H : Hp) (C : Addr) (cl : List (Str × Addr)) (fp : List Addr), Ets (X.blk s H scope (compEnvC scope cl C X.env) fp) ifs T)
    (he : ∀ (s : Shared) (H : Hp) (C : Addr) (cl : List (Str × Addr)) (fp : List Addr), Ev (X.blk s H scope (compEnvC scope cl C X.env) fp) WF elt F) (hs : ∀ x, foldedSetIterable iter X.env x = pure x := by intro _; rfl) :
    Eo X W (.ListComp elt [⟨tg, iter, ifs, 0⟩] scope pos) (eComp Fi A T F (own.map (·.2))) := by
  refine ⟨fun {Z0 H0 Z H σ ρ Q} r q => toAt (pe_lc hc hN pi_at ok ?_ ?_ ?_ hs) (lc_read hi hg hjs ht he r q)⟩
  · exact fun s H C cl fp => ⟨fun pins s' σ H' v u Q I rv h => (h s H C cl fp) pins s' u I rv⟩
  · exact fun s H C cl fp => ⟨fun pins s' σ H' Q I h => pts_at.run pins s' σ H' Q I (h s H C cl fp)⟩
  · exact fun s H C cl fp => ⟨fun pins s' σ H' Q I h => (h s H C cl fp) pins s' I⟩
end
end PQ

/-! PQ.8: statements, defs -/
namespace PQ
open PySem PySem.Spec PyProof.Rows L2
open PySem.W (alike alikeAll dataLt rcLt_alike)

/-- what a statement leads to -/
inductive Out where
  | nx (ρ : Rho)
  | ret (d : D)
  | bk (ρ : Rho)
  | ct (ρ : Rho)
  | exc (x : Exc) (ρ : Rho)
  | stuck
abbrev ES := Rho → Out
def Out.of {α : Type} (r : R α) (ρ : Rho) (k : α → Out) : Out := match r with
  | .ok a => k a
  | .exc x => .exc x ρ
  | .stuck => .stuck
@[simp] theorem Out.of_ok {α : Type} (a : α) (ρ : Rho) (k : α → Out) : Out.of (.ok a) ρ k = k a := id rfl
@[simp] theorem Out.of_exc {α : Type} (x : Exc) (ρ : Rho) (k : α → Out) : Out.of (.exc x) ρ k = .exc x ρ := id rfl

/-- i op= e of ints and texts -/
def dIAdd : D → D → R D
  | .int i, .int j => .ok (.int (i + j))
  | .str a, .str b => guardR (fits (a.length + b.length)) (.str (a ++ b))
  | _, _ => .stuck
def dISub : D → D → R D
  | .int i, .int j => .ok (.int (i - j))
  | _, _ => .stuck
def dIMul : D → D → R D
  | .int i, .int j => guardR (mulOk i j) (.int (i * j))
  | _, _ => .stuck
def dIFdiv : D → D → R D
  | .int i, .int j => guardR (divOk j) (.int (i / j))
  | _, _ => .stuck

def PSat (X : Cx) (st : Stmt) (D : Ends) (σ : St) (H : Hp) : Prop := ∀ (pins : List (Addr × Obj)) (s : Shared), Inv X pins σ H s → wpAny (model X.prog X.w) X.A (exec st X.env) (SP X pins D) X.xe s
theorem ps_at {X : Cx} {st : Stmt} : PS X st (PSat X st) := ⟨fun pins s σ H D I h => h pins s I⟩
theorem toAtS {X : Cx} {st : Stmt} {t : TS} {D : Ends} {σ : St} {H : Hp} (h : PS X st t) (q : t D σ H) : PSat X st D σ H := fun pins s I => h.run pins s σ H D I q
def PSsat (X : Cx) (sts : List Stmt) (D : Ends) (σ : St) (H : Hp) : Prop := ∀ (pins : List (Addr × Obj)) (s : Shared), Inv X pins σ H s → wpAny (model X.prog X.w) X.A (execs sts X.env) (SP X pins D) X.xe s
theorem pss_at {X : Cx} {st : List Stmt} : PSs X st (PSsat X st) := ⟨fun pins s σ H D I h => h pins s I⟩
theorem toAtSs {X : Cx} {st : List Stmt} {t : TS} {D : Ends} {σ : St} {H : Hp} (h : PSs X st t) (q : t D σ H) : PSsat X st D σ H := fun pins s I => h.run pins s σ H D I q

section
variable (X : Cx) (W : WX) (Z0 H0 Z : Hp)
/-- what is wanted of an outcome; Z stood frozen ahead of the statement -/
def SPost (o : Out) (D : Ends) : Prop := match o with
  | .nx ρ => ∀ σ Z' H', Rep X.w X.K Z0 H0 Z' H' σ ρ → Same Z Z' → D.nx σ H'
  | .ret d => ∀ v Z' H', Ext Z0 H0 Z' H' → RD X.w X.K Z' v d → D.rt v H'
  | .bk ρ => ∀ σ Z' H', Rep X.w X.K Z0 H0 Z' H' σ ρ → Same Z Z' → D.bk σ H'
  | .ct ρ => ∀ σ Z' H', Rep X.w X.K Z0 H0 Z' H' σ ρ → Same Z Z' → D.ct σ H'
  | .exc x ρ => ∀ cls dx σ Z' H', Rep X.w X.K Z0 H0 Z' H' σ ρ → Same Z Z' → RX X.w X.K X.mg Z' x cls dx → W cls dx σ H'
  | .stuck => False
end
structure Es (X : Cx) (W : WX) (st : Stmt) (S : ES) : Prop where
  go : ∀ {Z0 H0 Z H : Hp} {σ : St} {ρ : Rho} {D : Ends}, Rep X.w X.K Z0 H0 Z H σ ρ → SPost X W Z0 H0 Z (S ρ) D → PSat X st D σ H
structure Ess (X : Cx) (W : WX) (sts : List Stmt) (S : ES) : Prop where
  go : ∀ {Z0 H0 Z H : Hp} {σ : St} {ρ : Rho} {D : Ends}, Rep X.w X.K Z0 H0 Z H σ ρ → SPost X W Z0 H0 Z (S ρ) D → PSsat X sts D σ H

section
variable {X : Cx} {W : WX} {Z0 H0 Z H : Hp} {σ : St} {ρ : Rho} {D : Ends}
theorem SPost.step {Z' : Hp} {o : Out} (h : SPost X W Z0 H0 Z o D) (s : Same Z Z') : SPost X W Z0 H0 Z' o D := by
  cases o with
  | nx ρ => exact fun σ Z2 H2 r s2 => h σ Z2 H2 r (s.trans s2)
  | ret d => exact h
  | bk ρ => exact fun σ Z2 H2 r s2 => h σ Z2 H2 r (s.trans s2)
  | ct ρ => exact fun σ Z2 H2 r s2 => h σ Z2 H2 r (s.trans s2)
  | exc x ρ => exact fun cls dx σ Z2 H2 r s2 => h cls dx σ Z2 H2 r (s.trans s2)
  | stuck => exact h
theorem SPost.post {α : Type} {r : R α} {k : α → Out} (h : SPost X W Z0 H0 Z (Out.of r ρ k) D) (rp : Rep X.w X.K Z0 H0 Z H σ ρ) : Post X W Z H σ r fun a => SPost X W Z0 H0 Z (k a) D := by
  cases r with
  | ok a => exact h
  | exc x => exact fun cls dx Z' H' e rx => h cls dx σ Z' H' (rp.step e) e.zz rx
  | stuck => exact h

/-! ### values with their mode -/
/-- v bears s, new since H -/
def SlNew (w : World) (K : PySem.W.Frag) (H Z' H' : Hp) (v : V) : Sl → Prop
  | .f d => RD w K Z' v d
  | .o d => ∃ a, v = .ref a ∧ H a = none ∧ Own w K Z' H' a d
  | .n rows => ∃ a bs, v = .ref a ∧ (∀ b ∈ a :: bs, H b = none) ∧ NOwn w K Z' H' a bs rows
  | _ => False
structure Em (X : Cx) (W : WX) (e : Expr) (F : Rho → R Sl) : Prop where
  go : ∀ {Z0 H0 Z H : Hp} {σ : St} {ρ : Rho} {Q : VK}, Rep X.w X.K Z0 H0 Z H σ ρ → Post X W Z H σ (F ρ) (fun s => ∀ v Z' H', Ext Z H Z' H' → SlNew X.w X.K H Z' H' v s → Q v H') → PEat X e σ H Q
def mF (F : EV) : Rho → R Sl := fun ρ => F ρ >>= fun d => .ok (.f d)
def mO (F : EV) : Rho → R Sl := fun ρ => F ρ >>= fun d => .ok (.o d)
theorem Ev.em {e : Expr} {F : EV} (h : Ev X W e F) : Em X W e (mF F) := ⟨fun r q => h.go r (q.bind.mono fun d hd v Z' H' x rd => hd _ _ _ x rd)⟩
theorem Eo.em {e : Expr} {F : EV} (h : Eo X W e F) : Em X W e (mO F) := ⟨fun r q => h.go r (q.bind.mono fun d hd a Z' H' x hn ho => hd _ _ _ x ⟨a, rfl, hn, ho⟩)⟩
theorem SlNew.ext {w : World} {K : PySem.W.Frag} {H Z1 H1 Z2 H2 : Hp} {v : V} {s : Sl} (h : SlNew w K H Z1 H1 v s) (x : Ext Z1 H1 Z2 H2) : SlNew w K H Z2 H2 v s := by
  cases s with
  | f d => exact RD.mono x.zz h
  | o d => obtain ⟨a, e, n, o⟩ := h; exact ⟨a, e, n, o.ext x⟩
  | u => exact h
  | s d => exact h
  | x a b c => exact h
  | n rows =>
    obtain ⟨a, bs, e, n, q⟩ := h
    exact ⟨a, bs, e, n, q.keep x.zz fun b hb => by
      obtain ⟨h1, xs, h2⟩ := q.mem hb
      exact ⟨x.nw b _ h1 h2, fun o e => x.hh _ _ e⟩⟩
/-- a new value into slot i -/
theorem Rep.put {w : World} {K : PySem.W.Frag} {Z' H' : Hp} (r : Rep w K Z0 H0 Z H σ ρ) (x : Ext Z H Z' H') (i : Nat) {v : V} {s : Sl} (q : SlNew w K H Z' H' v s) : Rep w K Z0 H0 Z' H' (σ.set i (some v)) (ρ.set i s) := by
  cases s with
  | f d => exact (r.step x).setF i q
  | o d =>
    obtain ⟨a, rfl, hn, ho⟩ := q
    refine (r.step x).setO i ho ?_ fun j c s hj h1 h2 ow => ?_
    · cases e : H0 a with
      | none => rfl
      | some u => have := r.ext.hh a u e; rw [hn] at this; cases this
    · have ow2 := (r.sl j c s h1 h2).ownsBack (fun b _ o e => x.hh _ _ e) ow
      obtain ⟨⟨u, hu⟩, _⟩ := (r.sl j c s h1 h2).owned ow2
      rw [hn] at hu; cases hu
  | n rows =>
    obtain ⟨a, bs, rfl, hn, ho⟩ := q
    refine (r.step x).setN i ho (fun b hb => ?_) fun j c s b hj hb h1 h2 ow => ?_
    · cases e : H0 b with
      | none => rfl
      | some u => have := r.ext.hh b u e; rw [hn b hb] at this; cases this
    · have ow2 := (r.sl j c s h1 h2).ownsBack (fun b _ o e => x.hh _ _ e) ow
      obtain ⟨⟨u, hu⟩, _⟩ := (r.sl j c s h1 h2).owned ow2
      rw [hn b hb] at hu; cases hu
  | u => exact q.elim
  | s d => exact q.elim
  | x a b c => exact q.elim

/-! ### blocks -/
variable {st : Stmt} {sts : List Stmt} {e a b c : Expr} {pos p : Pos} {F G : EV} {T : ET} {S S' : ES}
def sNil : ES := .nx
def sCons (S S' : ES) : ES := fun ρ => match S ρ with
  | .nx ρ' => S' ρ'
  | o => o
theorem ess_nil : Ess X W [] sNil := ⟨fun r q => toAtSs pss_nil (q _ _ _ r (Same.refl _))⟩
theorem ess_one (h : Es X W st S) : Ess X W [st] S := ⟨fun r q => toAtSs (pss_one ps_at) (h.go r q)⟩
theorem ess_cons (h : Es X W st S) (h2 : Ess X W sts S') : Ess X W (st :: sts) (sCons S S') := by
  refine ⟨fun {Z0 H0 Z H σ ρ D} r q => toAtSs (pss_cons ps_at pss_at) ?_⟩
  refine h.go r ?_
  unfold sCons at q
  cases e : S ρ with
  | nx ρ' =>
    rw [e] at q
    exact fun σ' Z' H' r' s' => h2.go r' (SPost.step q s')
  | ret d => rw [e] at q; exact q
  | bk ρ' => rw [e] at q; exact q
  | ct ρ' => rw [e] at q; exact q
  | exc x ρ' => rw [e] at q; exact q
  | stuck => rw [e] at q; exact q
def sPass : ES := .nx
theorem es_pass : Es X W (.Pass pos) sPass := ⟨fun r q => toAtS ps_pass (q _ _ _ r (Same.refl _))⟩
def sBreak : ES := .bk
theorem es_break : Es X W (.Break pos) sBreak := ⟨fun r q => toAtS ps_break (q _ _ _ r (Same.refl _))⟩
def sContinue : ES := .ct
theorem es_continue : Es X W (.Continue pos) sContinue := ⟨fun r q => toAtS ps_continue (q _ _ _ r (Same.refl _))⟩
def sRet (F : EV) : ES := fun ρ => Out.of (F ρ) ρ .ret
theorem es_ret (h : Ev X W e F) : Es X W (.Return (some e) pos) (sRet F) := by
  refine ⟨fun {Z0 H0 Z H σ ρ D} r q => toAtS (ps_ret pe_at) ?_⟩
  exact h.go r ((q.post r).mono fun d hd v Z' H' x rd => hd _ _ _ (r.ext.trans x) rd)
def sRetN : ES := fun _ => .ret .none
theorem es_retN : Es X W (.Return none pos) sRetN := ⟨fun r q => toAtS ps_retN (q _ _ _ r.ext .non)⟩
def sExpr (F : EV) : ES := fun ρ => Out.of (F ρ) ρ fun _ => .nx ρ
theorem es_expr (h : Ev X W e F) (hs : swapsWith e none pos.line X.env = pure false := by rfl) : Es X W (.Expr e pos) (sExpr F) := by
  refine ⟨fun {Z0 H0 Z H σ ρ D} r q => toAtS (ps_expr pe_at hs) ?_⟩
  exact h.go r ((q.post r).mono fun d hd v Z' H' x rd => hd _ _ _ (r.step x) x.zz)
def sNever : ES := fun _ => .stuck
theorem es_never : Es X W st sNever := ⟨fun _ q => q.elim⟩
def sIf (T : ET) (S S' : ES) : ES := fun ρ => Out.of (T ρ) ρ fun b => if b = true then S ρ else S' ρ
theorem es_if {A B : List Stmt} (h : Et X W c T) (ha : Ess X W A S) (hb : Ess X W B S') : Es X W (.If c A B pos) (sIf T S S') := by
  refine ⟨fun {Z0 H0 Z H σ ρ D} r q => toAtS (ps_if pt_at pss_at pss_at) ?_⟩
  refine h.go r ((q.post r).mono fun b hb' Z' H' x => ?_)
  cases b with
  | true => exact ha.go (r.step x) (SPost.step hb' x.zz)
  | false => exact hb.go (r.step x) (SPost.step hb' x.zz)

/-! ### assignments -/
def sSet (i : Nat) (F : Rho → R Sl) : ES := fun ρ => Out.of (F ρ) ρ fun s => .nx (ρ.set i s)
theorem es_set (i : Nat) {x : Str} {p' : Pos} {F : Rho → R Sl} (h : Em X W e F) (hN : X.N.Nodup) (hi : X.N[i]? = some x := by rfl) (hx : Loc X.env.scope x := by first | exact Or.inl rfl | exact Or.inr rfl) (hs : swapsWith e (some (.Name x p')) pos.line X.env = pure false := by rfl)
    (hf : X.fn x = true ∨ X.env.scope.names.lookup x = some .local := by first | exact .inl rfl | exact .inr rfl) : Es X W (.Assign [.Name x p'] e pos) (sSet i F) := by
  refine ⟨fun {Z0 H0 Z H σ ρ D} r q => toAtS (ps_set hN hi hx pe_at hs hf) ?_⟩
  exact h.go r ((q.post r).mono fun s hd v Z' H' x n => hd _ _ _ (r.put x i n) x.zz)
def sAsg (F : EV) (A : EG) : ES := fun ρ => Out.of (F ρ) ρ fun d => Out.of (A d ρ) ρ .nx
theorem es_asg {tg : Expr} {A : EG} {js : List Nat} (h : Ev X W e F) (hg : Eg X tg A js) (hs : swapsWithSole [tg] e pos.line X.env = pure false := by rfl) (hw : swappedStores [tg] e X.env = pure none := by rfl)
    (h1 : (assignEach [tg] X.env).map (·.2) = [assign tg X.env] := by rfl) : Es X W (.Assign [tg] e pos) (sAsg F A) := by
  refine ⟨fun {Z0 H0 Z H σ ρ D} r q => toAtS (ps_asg pe_at pg_at hs hw h1) ?_⟩
  refine h.go r ((q.post r).mono fun d hd v Z' H' x rd => ?_)
  refine hg.go (r.step x) rd ?_
  have cl := hg.cl d ρ
  cases e1 : A d ρ with
  | ok ρ' => rw [e1] at hd; exact fun σ' o r' => hd _ _ _ r' x.zz
  | exc x => rw [e1] at cl; exact cl.elim
  | stuck => rw [e1] at hd; exact hd.elim
def sPar (i j : Nat) (F G : Rho → R Sl) : ES := fun ρ => Out.of (F ρ) ρ fun s => Out.of (G ρ) ρ fun t => .nx ((ρ.set i s).set j t)
theorem put2 {w : World} {K : PySem.W.Frag} {Z1 H1 Z2 H2 : Hp} (r : Rep w K Z0 H0 Z H σ ρ) (x1 : Ext Z H Z1 H1) (x2 : Ext Z1 H1 Z2 H2) {i j : Nat} (hij : i ≠ j) {v u : V} {s t : Sl} (q1 : SlNew w K H Z1 H1 v s) (q2 : SlNew w K H1 Z2 H2 u t) :
    Rep w K Z0 H0 Z2 H2 ((σ.set i (some v)).set j (some u)) ((ρ.set i s).set j t) := (r.put x1 i q1).put x2 j q2
theorem es_par (i j : Nat) {x y : Str} {px py pt : Pos} {kt k2 pt2} {F G : Rho → R Sl} (hc : X.calm = true) (hN : X.N.Nodup) (h1 : Em X W a F) (h2 : Em X W b G) (hi : X.N[i]? = some x := by rfl) (hj : X.N[j]? = some y := by rfl) (hij : i ≠ j := by decide)
    (hx : X.env.scope.names.lookup x = some .local := by rfl) (hy : X.env.scope.names.lookup y = some .local := by rfl)
    (hw : swappedStores [.Tuple [.Name x px, .Name y py] kt pt] (.Tuple [a, b] k2 pt2) X.env = pure (some [x, y]) := by rfl)
    (hs : swapsWithSole [.Tuple [.Name x px, .Name y py] kt pt] (.Tuple [a, b] k2 pt2) pos.line X.env = pure false := by rfl)
    (he : starEach [a, b] X.env = (false, eval a X.env) :: starEach [b] X.env := by rfl) (he2 : starEach [b] X.env = (false, eval b X.env) :: starEach [] X.env := by rfl) :
    Es X W (.Assign [.Tuple [.Name x px, .Name y py] kt pt] (.Tuple [a, b] k2 pt2) pos) (sPar i j F G) := by
  refine ⟨fun {Z0 H0 Z H σ ρ D} r q => toAtS (ps_par hc hN hi hj hij hx hy (pa_cons pe_at (pa_cons pe_at pa_nil he2) he) hw hs) ?_⟩
  refine h1.go r ((q.post r).mono fun s hd v Z1 H1 x1 n1 => ?_)
  refine h2.go (r.step x1) (((hd.post r).step x1).mono fun t ht u Z2 H2 x2 n2 => ?_)
  exact ⟨v, u, rfl, ht _ _ _ (put2 r x1 x2 hij n1 n2) (x1.zz.trans x2.zz)⟩

abbrev rIAdd : R2 := fun x y H Q => rI0 (fun i j => .int (i + j)) x y H Q ∨ (∃ i j, x = .str i ∧ y = .str j ∧ i.length + j.length ≤ sizeLine ∧ Q (.str (i ++ j)) H)
theorem od_iadd : OpD X rIAdd dIAdd := by
  intro Z H x y dx dy Q s rx ry h
  cases rx <;> cases ry <;> try exact h.elim
  · exact .inl ⟨_, _, rfl, rfl, h _ _ _ (Ext.refl s) (.int _)⟩
  · obtain ⟨hc, h⟩ := h.guard
    exact .inr ⟨_, _, rfl, rfl, fits_le hc, h _ _ _ (Ext.refl s) (.str _)⟩
theorem cl_iadd (x y : PQ.D) : (dIAdd x y).clean := by cases x <;> cases y <;> first | trivial | exact clean_guard _ _
theorem od_isub : OpD X (rI0 fun i j => .int (i - j)) dISub := by
  intro Z H x y dx dy Q s rx ry h
  cases rx <;> cases ry <;> try exact h.elim
  exact ⟨_, _, rfl, rfl, h _ _ _ (Ext.refl s) (.int _)⟩
theorem cl_isub (x y : PQ.D) : (dISub x y).clean := by cases x <;> cases y <;> trivial
theorem od_imul : OpD X (rI CMul fun i j => .int (i * j)) dIMul := by
  intro Z H x y dx dy Q s rx ry h
  cases rx <;> cases ry <;> try exact h.elim
  obtain ⟨hc, h⟩ := h.guard
  refine ⟨_, _, rfl, rfl, ?_, h _ _ _ (Ext.refl s) (.int _)⟩
  unfold mulOk at hc
  rw [Bool.or_eq_true, decide_eq_true_eq, decide_eq_true_eq] at hc
  unfold CMul
  omega
theorem cl_imul (x y : PQ.D) : (dIMul x y).clean := by cases x <;> cases y <;> first | trivial | exact clean_guard _ _
theorem od_ifdiv : OpD X (rI CDiv fun i j => .int (i / j)) dIFdiv := by
  intro Z H x y dx dy Q s rx ry h
  cases rx <;> cases ry <;> try exact h.elim
  obtain ⟨hc, h⟩ := h.guard
  unfold divOk at hc
  rw [Bool.and_eq_true, decide_eq_true_eq, decide_eq_true_eq] at hc
  exact ⟨_, _, rfl, rfl, hc, h _ _ _ (Ext.refl s) (.int _)⟩
theorem cl_ifdiv (x y : PQ.D) : (dIFdiv x y).clean := by cases x <;> cases y <;> first | trivial | exact clean_guard _ _
def sAug (i : Nat) (f : PQ.D → PQ.D → R PQ.D) (F : EV) : ES := fun ρ => Out.of (eVar i ρ) ρ fun x => Out.of (F ρ) ρ fun y => Out.of (f x y) ρ fun z => .nx (ρ.set i (.f z))
theorem es_aug (i : Nat) {x : Str} {p' : Pos} {op : Operator} {r2 : R2} {f : PQ.D → PQ.D → R PQ.D} (ho : OpR X (inplaceOp op) r2) (hd : OpD X r2 f) (cl : ∀ x y, (f x y).clean) (h : Ev X W e F) (hN : X.N.Nodup) (hi : X.N[i]? = some x := by rfl) (hx : Loc X.env.scope x := by first | exact Or.inl rfl | exact Or.inr rfl)
    (hf : X.fn x = true ∨ X.env.scope.names.lookup x = some .local := by first | exact .inl rfl | exact .inr rfl) : Es X W (.AugAssign (.Name x p') op e pos) (sAug i f F) := by
  refine ⟨fun {Z0 H0 Z H σ ρ D} r q => toAtS (ps_aug hN hi hx pe_at (ti := r2) (fun pins s σ H x y v u Q I r1 r2 h => ho pins s σ H x y v u Q I r1 r2 h) hf) ?_⟩
  unfold sAug eVar at q
  cases hr : ρ[i]? with
  | none => rw [hr] at q; exact q.elim
  | some s =>
    rw [hr] at q
    cases s with
    | f d =>
      obtain ⟨v, hv, rd⟩ := r.getF hr
      refine ⟨v, hv, ?_⟩
      have q : SPost X W Z0 H0 Z (Out.of (F ρ) ρ fun y => Out.of (f d y) ρ fun z => .nx (ρ.set i (.f z))) D := q
      refine h.go r ((q.post r).mono fun d2 q2 u Z1 H1 x1 r1 => ?_)
      refine hd Z1 H1 v u d d2 _ x1.zh (rd.mono x1.zz) r1 ?_
      have c := cl d d2
      cases e1 : f d d2 with
      | ok z => rw [e1] at q2; exact fun v3 Z3 H3 x3 r3 => q2 _ _ _ ((r.step (x1.trans x3)).setF i r3) (x1.zz.trans x3.zz)
      | exc x => rw [e1] at c; exact c.elim
      | stuck => rw [e1] at q2; exact q2.elim
    | u => exact q.elim
    | o d => exact q.elim
    | n d => exact q.elim
    | x a b c => exact q.elim
    | s d => exact q.elim
theorem es_iadd (i : Nat) {x : Str} {p' : Pos} (h : Ev X W e F) (hN : X.N.Nodup) (hi : X.N[i]? = some x := by rfl) (hx : Loc X.env.scope x := by first | exact Or.inl rfl | exact Or.inr rfl)
    (hf : X.fn x = true ∨ X.env.scope.names.lookup x = some .local := by first | exact .inl rfl | exact .inr rfl) : Es X W (.AugAssign (.Name x p') .Add e pos) (sAug i dIAdd F) := es_aug i (iop_add.or iop_add_str) od_iadd cl_iadd h hN hi hx hf
theorem es_isub (i : Nat) {x : Str} {p' : Pos} (h : Ev X W e F) (hN : X.N.Nodup) (hi : X.N[i]? = some x := by rfl) (hx : Loc X.env.scope x := by first | exact Or.inl rfl | exact Or.inr rfl)
    (hf : X.fn x = true ∨ X.env.scope.names.lookup x = some .local := by first | exact .inl rfl | exact .inr rfl) : Es X W (.AugAssign (.Name x p') .Sub e pos) (sAug i dISub F) := es_aug i iop_sub od_isub cl_isub h hN hi hx hf
theorem es_imul (i : Nat) {x : Str} {p' : Pos} (h : Ev X W e F) (hN : X.N.Nodup) (hi : X.N[i]? = some x := by rfl) (hx : Loc X.env.scope x := by first | exact Or.inl rfl | exact Or.inr rfl)
    (hf : X.fn x = true ∨ X.env.scope.names.lookup x = some .local := by first | exact .inl rfl | exact .inr rfl) : Es X W (.AugAssign (.Name x p') .Mult e pos) (sAug i dIMul F) := es_aug i iop_mul od_imul cl_imul h hN hi hx hf
theorem es_ifdiv (i : Nat) {x : Str} {p' : Pos} (h : Ev X W e F) (hN : X.N.Nodup) (hi : X.N[i]? = some x := by rfl) (hx : Loc X.env.scope x := by first | exact Or.inl rfl | exact Or.inr rfl)
    (hf : X.fn x = true ∨ X.env.scope.names.lookup x = some .local := by first | exact .inl rfl | exact .inr rfl) : Es X W (.AugAssign (.Name x p') .FloorDiv e pos) (sAug i dIFdiv F) := es_aug i iop_fdiv od_ifdiv cl_ifdiv h hN hi hx hf

/-! ### x.append(e) -/
def sApp (i : Nat) (F : EV) : ES := fun ρ => match ρ[i]? with
  | some (.o (.list ds)) => Out.of (F ρ) ρ fun d => Out.of (guardR (fits (ds.length + 1)) ()) ρ fun _ => .nx (ρ.set i (.o (.list (ds ++ [d]))))
  | _ => .stuck
theorem es_app (i : Nat) {x : Str} {ap cp p' pe : Pos} (h : Ev X W e F) (hi : X.N[i]? = some x := by rfl) (hv : Vis X.env.scope x := by first | exact Or.inl rfl | exact Or.inr (Or.inl rfl) | exact Or.inr (Or.inr rfl)) (hd : (x == ("__debug__" : Str)) = false := by decide)
    (hcd : (x == ("__classdict__" : Str)) = false := by decide) (hs : swapsWith (.Call (.Attribute (.Name x p') "append" ap) [e] [] cp) none pe.line X.env = pure false := by rfl)
    (hbase : attributeBase (.Name x p') "append" X.env (eval (.Name x p') X.env) = eval (.Name x p') X.env := by rfl)
    (hfew : ((backTo cp (starEach (e :: []) X.env)).all (fun x => !x.1) && (backToKw cp (keywordEach [] X.env)).all (fun x => x.1.isSome)
      && decide ((e :: ([] : List Expr)).length + ([] : List Keyword).length + (if ([] : List Keyword).isEmpty then 0 else 1) < 30)) = true := by rfl)
    (hline : (ap.endLine == cp.line) = true := by rfl) (hs' : starEach (e :: []) X.env = (false, eval e X.env) :: starEach [] X.env := by rfl) (hplain : (backTo cp (starEach [] X.env)).any (·.1) = false := by rfl) :
    Es X W (.Expr (.Call (.Attribute (.Name x p') "append" ap) [e] [] cp) pe) (sApp i F) := by
  refine ⟨fun {Z0 H0 Z H σ ρ D} r q => toAtS (ps_expr (pe_bm PySem.F.plainAttrs_list PySem.F.slot_list_append PySem.F.type_list_append mt_append (pe_var hi hv hd hcd) (pa_cons pe_at pa_nil hs') hbase hfew hline hs' hplain) hs) ?_⟩
  unfold sApp at q
  split at q
  · rename_i ds hr
    obtain ⟨l, hl, ho, h0⟩ := r.getO hr
    cases ho with
    | lst hz hH rds =>
      rename_i xs
      refine ⟨_, hl, .inl ⟨rfl, xs, .inl (.inl hH)⟩, ?_⟩
      refine h.go r ((q.post r).mono fun d q2 u Z1 H1 x1 r1 => ?_)
      unfold guardR at q2
      split at q2
      · rename_i hf
        have hf := fits_le hf
        have zl : Z1 l = none := x1.nw l _ hz hH
        refine ⟨l, xs, u, rfl, rfl, x1.hh _ _ hH, by rw [rds.length]; exact hf, ?_⟩
        refine q2 _ _ _ (Rep.mutate (r.step x1) hr hl h0 zl ?_) x1.zz
        exact .lst zl upd_same ((rds.mono x1.zz).append (.cons r1 .nil))
      · exact q2.elim
  · exact q.elim

/-! ### ghosts -/
/-- the slots ks are forgotten behind the statement -/
def oKill (ks : List Nat) : Out → Out
  | .nx ρ => .nx (wipeR ρ ks)
  | o => o
theorem Rep.forgets (r : Rep X.w X.K Z0 H0 Z H σ ρ) : ∀ ks : List Nat, Rep X.w X.K Z0 H0 Z H σ (wipeR ρ ks)
  | [] => r
  | k :: ks => (Rep.forgets r ks).forget k
def sKill (ks : List Nat) (S : ES) : ES := fun ρ => oKill ks (S ρ)
theorem es_kill (ks : List Nat) (h : Es X W st S) : Es X W st (sKill ks S) := by
  refine ⟨fun {Z0 H0 Z H σ ρ D} r q => h.go r ?_⟩
  unfold sKill at q
  cases e : S ρ with
  | nx ρ' => rw [e] at q; exact fun σ' Z' H' r' s' => q _ _ _ (r'.forgets ks) s'
  | ret d => rw [e] at q; exact q
  | bk ρ' => rw [e] at q; exact q
  | ct ρ' => rw [e] at q; exact q
  | exc x ρ' => rw [e] at q; exact q
  | stuck => rw [e] at q; exact q
/-- slot i's own object is frozen ahead of the statement -/
def frz (i : Nat) (ρ : Rho) : Rho := match ρ[i]? with
  | some (.o d) => ρ.set i (.f d)
  | _ => ρ
theorem Rep.frz (r : Rep X.w X.K Z0 H0 Z H σ ρ) (i : Nat) : ∃ Z', Rep X.w X.K Z0 H0 Z' H σ (PQ.frz i ρ) ∧ Same Z Z' := by
  unfold PQ.frz
  split
  · rename_i d h
    exact r.freeze h
  · exact ⟨Z, r, Same.refl _⟩
def sFrz (i : Nat) (S : ES) : ES := fun ρ => S (frz i ρ)
theorem es_frz (i : Nat) (h : Es X W st S) : Es X W st (sFrz i S) := by
  refine ⟨fun {Z0 H0 Z H σ ρ D} r q => ?_⟩
  obtain ⟨Z', r', s⟩ := r.frz i
  exact h.go r' (SPost.step q s)
/-- what is left of a longer frozen part when a is taken out: the tuples -/
theorem unfreeze {Z H Z' H' : Hp} {a : Addr} {o : HO} (s : Same Z H) (hz : Z a = none) (ha : H a = some o) (no : tupsOf (upd Z a o) a = none) (x : Ext (upd Z a o) H Z' H') : ∃ Z'', Ext Z H Z'' H' ∧ Same (tupsOf Z') Z'' ∧ Z'' a = none ∧ ∀ b, Z b = none → Z' b = none → Z'' b = none := by
  refine ⟨fun b => match Z b with
    | some u => some u
    | none => tupsOf Z' b, ⟨x.hh, fun b u e => by simp only [e], fun b u e => ?_, fun b u h1 h2 => ?_⟩, fun b u e => ?_, ?_, fun b h1 h2 => by simp only [h1]; unfold tupsOf; rw [h2]⟩
  · cases hb : Z b with
    | some u' =>
      simp only [hb] at e
      cases e
      exact x.hh b _ (s b _ hb)
    | none => simp only [hb] at e; exact x.zh b u (tupsOf_le _ _ _ e)
  · simp only [h1]
    by_cases hb : b = a
    · subst hb
      have e := x.zz b o upd_same
      unfold tupsOf at no ⊢
      rw [upd_same] at no
      rw [e]
      exact no
    · have := x.nw b u (by rw [upd_ne hb]; exact h1) h2
      unfold tupsOf
      rw [this]
  · cases hb : Z b with
    | some u' =>
      have e1 : Z' b = some u' := x.zz b u' (by rw [upd_ne (fun z => by rw [z, hz] at hb; cases hb)]; exact hb)
      have e2 := tupsOf_le _ _ _ e
      rw [e1] at e2
      cases e2
      simp only [hb]
    | none => simp only [hb]; exact e
  · simp only [hz]
    have e := x.zz a o upd_same
    unfold tupsOf at no ⊢
    rw [upd_same] at no
    rw [e]
    exact no
theorem Own.noTup {w : World} {K : PySem.W.Frag} {a : Addr} {d : PQ.D} (h : Own w K Z H a d) : ∃ o, H a = some o ∧ tupsOf (upd Z a o) a = none := by
  cases h with
  | lst h1 h2 _ => exact ⟨_, h2, by unfold tupsOf; rw [upd_same]⟩
  | dct h1 h2 _ _ _ _ _ _ => exact ⟨_, h2, by unfold tupsOf; rw [upd_same]⟩
/-- slot i's own object is read within the expression -/
def excFlat (x : Exc) : Bool := x.fld.isEmpty
def borR {α : Type} (ok : α → Bool) : R α → R α
  | .ok d => guardR (ok d) d
  | .exc x => if excFlat x = true then .exc x else .stuck
  | .stuck => .stuck
def borRho (i : Nat) (ρ : Rho) : Option Rho := match ρ[i]? with
  | some (.o d) => some (ρ.set i (.f d))
  | _ => none
def eBor (i : Nat) (F : EV) : EV := fun ρ => match borRho i ρ with
  | some ρ' => borR noLst (F ρ')
  | none => F ρ
theorem Rep.bor {i : Nat} {ρ' : Rho} (r : Rep X.w X.K Z0 H0 Z H σ ρ) (h : borRho i ρ = some ρ') : ∃ a o, Rep X.w X.K Z0 H0 (upd Z a o) H σ ρ' ∧ Z a = none ∧ H a = some o ∧ tupsOf (upd Z a o) a = none := by
  unfold borRho at h
  split at h
  · rename_i d hr
    cases h
    obtain ⟨a, h1, q, h0⟩ := r.getO hr
    obtain ⟨o, ho, hno⟩ := q.noTup
    obtain ⟨o', ho', q', s1, s2⟩ := q.freeze r.zh
    rw [ho] at ho'; cases ho'
    refine ⟨a, o, ?_, q.zno, ho, hno⟩
    have h := r.one (Z' := upd Z a o) (H' := H) i (some (.ref a)) (.f d) ⟨r.ext.hh, r.ext.zz.trans s1, s2, fun b u hb1 hb2 => ?_⟩ s1 (fun j c s b hj e1 e2 ow => ?_) ⟨_, rfl, q'⟩ (fun _ _ _ _ _ _ _ _ o => o)
    · have e := set_self σ i none
      rw [h1] at e
      have e : σ.set i (some (.ref a)) = σ := e
      rwa [e] at h
    · rw [upd_ne (fun z => by rw [z, h0] at hb2; cases hb2)]
      exact r.ext.nw b u hb1 hb2
    · refine ⟨?_, fun _ e => e⟩
      have hb : b ≠ a := fun hb => by
        subst hb
        exact r.dj j i c _ s _ b hj e1 h1 e2 hr ow rfl
      rw [upd_ne hb]
      exact (r.keepsO j c s b e1 e2 ow).1
  · cases h
theorem bor_x {a : Addr} {o : HO} {x : Exc} (s : Same Z H) (hz : Z a = none) (ha : H a = some o) (no : tupsOf (upd Z a o) a = none) (f : excFlat x = true) (h : XPost X W Z H σ x) : XPost X W (upd Z a o) H σ x := by
  intro cls dx Z' H' e rx
  obtain ⟨Z'', x2, s2, za, zo⟩ := unfreeze s hz ha no e
  cases rx with
  | bare h1 => exact h _ _ Z'' H' x2 (.bare h1)
  | fld _ _ _ => simp [excFlat] at f
theorem borR_post {α : Type} {ok : α → Bool} {r : R α} {P P' : α → Prop} {a : Addr} {o : HO} (s : Same Z H) (hz : Z a = none) (ha : H a = some o) (no : tupsOf (upd Z a o) a = none) (h : Post X W Z H σ (borR ok r) P) (hp : ∀ d, ok d = true → P d → P' d) : Post X W (upd Z a o) H σ r P' := by
  cases r with
  | ok d =>
    have h : Post X W Z H σ (guardR (ok d) d) P := h
    obtain ⟨hc, h⟩ := h.guard
    exact hp d hc h
  | exc x =>
    have h : Post X W Z H σ (if excFlat x = true then R.exc x else R.stuck) P := h
    split at h
    · exact bor_x s hz ha no (by assumption) h
    · exact h.elim
  | stuck => exact h.elim
theorem ev_bor (i : Nat) (h : Ev X W e F) : Ev X W e (eBor i F) := by
  refine ⟨fun {Z0 H0 Z H σ ρ Q} r q => ?_⟩
  unfold eBor at q
  cases hb : borRho i ρ with
  | none => rw [hb] at q; exact h.go r q
  | some ρ' =>
    rw [hb] at q
    obtain ⟨a, o, r', hz, ha, no⟩ := r.bor hb
    refine h.go r' (borR_post r.zh hz ha no q fun d hd q v Z' H' x rd => ?_)
    obtain ⟨Z'', x2, s2, za, zo⟩ := unfreeze r.zh hz ha no x
    exact q v Z'' H' x2 ((rd.tups hd).mono s2)
def tBor (i : Nat) (T : ET) : ET := fun ρ => match borRho i ρ with
  | some ρ' => borR (fun _ => true) (T ρ')
  | none => T ρ
theorem et_bor (i : Nat) (h : Et X W e T) : Et X W e (tBor i T) := by
  refine ⟨fun {Z0 H0 Z H σ ρ Q} r q => ?_⟩
  unfold tBor at q
  cases hb : borRho i ρ with
  | none => rw [hb] at q; exact h.go r q
  | some ρ' =>
    rw [hb] at q
    obtain ⟨a, o, r', hz, ha, no⟩ := r.bor hb
    refine h.go r' (borR_post r.zh hz ha no q fun d hd q Z' H' x => ?_)
    obtain ⟨Z'', x2, s2, za, zo⟩ := unfreeze r.zh hz ha no x
    exact q Z'' H' x2
/-- a new list whose items are tuples all the way -/
def flatO : PQ.D → Bool
  | .list ds => noLsts ds
  | .dict kvs => noLsts (kvs.map (·.1)) && noLsts (kvs.map (·.2))
  | _ => false
def oBor (i : Nat) (F : EV) : EV := fun ρ => match borRho i ρ with
  | some ρ' => borR flatO (F ρ')
  | none => F ρ
theorem eo_bor (i : Nat) (h : Eo X W e F) : Eo X W e (oBor i F) := by
  refine ⟨fun {Z0 H0 Z H σ ρ Q} r q => ?_⟩
  unfold oBor at q
  cases hb : borRho i ρ with
  | none => rw [hb] at q; exact h.go r q
  | some ρ' =>
    rw [hb] at q
    obtain ⟨a, o, r', hz, ha, no⟩ := r.bor hb
    refine h.go r' (borR_post r.zh hz ha no q fun d hd q b Z' H' x hn ho => ?_)
    obtain ⟨Z'', x2, s2, za, zo⟩ := unfreeze r.zh hz ha no x
    have zb : Z'' b = none := zo b (zfree r.zh hn) ho.zno
    refine q b Z'' H' x2 hn ?_
    cases ho with
    | lst h1 h2 h3 => exact .lst zb h2 ((h3.tups (by simpa [flatO] using hd)).mono s2)
    | dct h1 h2 h3 h4 h5 h6 h7 r1 =>
      unfold flatO at hd
      rw [Bool.and_eq_true] at hd
      exact .dct zb h2 h3 h4 h5 h6 h7 ((r1.tups hd.1 hd.2).mono s2)
end
end PQ

/-! PQ.9: loops, calls, raises, defs -/
namespace PQ
open PySem PySem.Spec PyProof.Rows L2
open PySem.W (alike alikeAll dataLt rcLt_alike)

/-! ### for -/
def forL (A : EG) (B : ES) (ks : List Nat) : List D → Rho → Out
  | [], ρ => .nx ρ
  | d :: ds, ρ => match A d ρ with
    | .ok ρ1 => match B ρ1 with
      | .nx ρ2 => forL A B ks ds (wipeR ρ2 ks)
      | .ct ρ2 => forL A B ks ds (wipeR ρ2 ks)
      | .bk ρ2 => .nx (wipeR ρ2 ks)
      | o => o
    | _ => .stuck
def sFor (Fi : EI) (A : EG) (B : ES) (ks : List Nat) : ES := fun ρ => Out.of (Fi ρ) ρ fun ds => forL A B ks ds (wipeR ρ ks)
/-- while, at most n turns -/
def whN (T : ET) (B : ES) (ks : List Nat) : Nat → Rho → Out
  | 0, _ => .stuck
  | n + 1, ρ => Out.of (T ρ) ρ fun b => if b = true then
      match B ρ with
      | .nx ρ2 => whN T B ks n (wipeR ρ2 ks)
      | .ct ρ2 => whN T B ks n (wipeR ρ2 ks)
      | .bk ρ2 => .nx (wipeR ρ2 ks)
      | o => o
    else .nx ρ
def fuelW : Nat := 1000000000
def sWhile (T : ET) (B : ES) (ks : List Nat) : ES := fun ρ => whN T B ks fuelW (wipeR ρ ks)
theorem whN_mono {T : ET} {B : ES} {ks : List Nat} : ∀ {n : Nat} {ρ : Rho} {o : Out}, whN T B ks n ρ = o → o ≠ .stuck → ∀ m, n ≤ m → whN T B ks m ρ = o
  | 0, ρ, o, h, ho, m, _ => absurd h.symm ho
  | n + 1, ρ, o, h, ho, 0, hm => absurd hm (by omega)
  | n + 1, ρ, o, h, ho, m + 1, hm => by
    rw [whN] at h ⊢
    cases e : T ρ with
    | exc x => rw [e] at h; exact h
    | stuck => rw [e] at h; exact h
    | ok b =>
      rw [e] at h
      cases b with
      | false => exact h
      | true =>
        have h : (match B ρ with
          | .nx ρ2 => whN T B ks n (wipeR ρ2 ks)
          | .ct ρ2 => whN T B ks n (wipeR ρ2 ks)
          | .bk ρ2 => .nx (wipeR ρ2 ks)
          | o => o) = o := h
        show (match B ρ with
          | .nx ρ2 => whN T B ks m (wipeR ρ2 ks)
          | .ct ρ2 => whN T B ks m (wipeR ρ2 ks)
          | .bk ρ2 => .nx (wipeR ρ2 ks)
          | o => o) = o
        cases e2 : B ρ with
        | nx ρ2 => rw [e2] at h; exact whN_mono h ho m (by omega)
        | ct ρ2 => rw [e2] at h; exact whN_mono h ho m (by omega)
        | bk ρ2 => rw [e2] at h; exact h
        | ret d => rw [e2] at h; exact h
        | exc x ρ2 => rw [e2] at h; exact h
        | stuck => rw [e2] at h; exact h
theorem sWhile_of {T : ET} {B : ES} {ks : List Nat} {n : Nat} {ρ : Rho} {o : Out} (h : whN T B ks n (wipeR ρ ks) = o) (ho : o ≠ .stuck) (hn : n ≤ 1000000000) : sWhile T B ks ρ = o := whN_mono h ho _ hn

section
variable {X : Cx} {W : WX} {Z0 H0 Z H : Hp} {σ : St} {ρ : Rho} {En : Ends}
variable {tg iter c : Expr} {body : List Stmt} {pos p : Pos} {Fi : EI} {A : EG} {js ks : List Nat} {S : ES} {T : ET}
theorem es_for (ks : List Nat) (hp : PassesOwn (model X.prog X.w) X.A X.env X.xe) (hc : X.calm = true) (hi : Ei X W tg iter Fi) (hg : Eg X tg A js) (hb : Ess X W body S) (hs : ∀ x, foldedSetIterable iter X.env x = pure x := by intro _; rfl) :
    Es X W (.For tg iter body [] pos) (sFor Fi A S ks) := by
  refine ⟨fun {Z0 H0 Z H σ ρ En} r q => toAtS (ps_for hp hc pi_at pg_at pss_at hs) ?_⟩
  refine hi.go r ((q.post r).mono fun ds q J Z1 H1 x1 io => ?_)
  refine ⟨fun i m σi Hi => m = ds.length - i ∧ i ≤ ds.length ∧ ∃ Zi ρi, Rep X.w X.K Z0 H0 Zi Hi σi ρi ∧ Same Z1 Zi ∧ SPost X W Z0 H0 Zi (forL A S ks (ds.drop i) ρi) En,
    ⟨ds.length, by simp, Nat.zero_le _, Z1, wipeR ρ ks, (r.step x1).forgets ks, Same.refl _, SPost.step q x1.zz⟩, ?_⟩
  rintro i m σi Hi ⟨rfl, hle, Zi, ρi, ri, si, qi⟩
  by_cases hlt : i < ds.length
  · have hd : ds[i]? = some ds[i] := by simp [hlt]
    rw [List.drop_eq_getElem_cons hlt] at qi
    generalize ds[i] = d at hd qi
    refine .inr ⟨io.go si ri.zh hd, fun σ' H' => i + 1 ≤ ds.length ∧ ∃ Zi ρi, Rep X.w X.K Z0 H0 Zi H' σ' ρi ∧ Same Z1 Zi ∧ SPost X W Z0 H0 Zi (forL A S ks (ds.drop (i + 1)) ρi) En,
      fun σ' H' h => ⟨ds.length - (i + 1), by omega, rfl, h⟩, fun x H' hy => ?_⟩
    obtain ⟨Z2, x2, rx⟩ := io.yld si ri.zh hd hy
    rw [forL] at qi
    refine hg.go (ri.step x2) rx ?_
    have cl := hg.cl d ρi
    cases e1 : A d ρi with
    | exc x => rw [e1] at cl; exact cl.elim
    | stuck => rw [e1] at qi; exact qi.elim
    | ok ρ1 =>
      rw [e1] at qi
      intro σ2 o2 r2
      refine hb.go r2 ?_
      have s12 := si.trans x2.zz
      have qi : SPost X W Z0 H0 Zi (match S ρ1 with
        | .nx ρ2 => forL A S ks (ds.drop (i + 1)) (wipeR ρ2 ks)
        | .ct ρ2 => forL A S ks (ds.drop (i + 1)) (wipeR ρ2 ks)
        | .bk ρ2 => .nx (wipeR ρ2 ks)
        | o => o) En := qi
      cases e2 : S ρ1 with
      | nx ρ2 =>
        rw [e2] at qi
        exact fun σ3 Z3 H3 r3 s3 => ⟨hlt, Z3, _, r3.forgets ks, s12.trans s3, SPost.step qi (x2.zz.trans s3)⟩
      | ct ρ2 =>
        rw [e2] at qi
        exact fun σ3 Z3 H3 r3 s3 => ⟨hlt, Z3, _, r3.forgets ks, s12.trans s3, SPost.step qi (x2.zz.trans s3)⟩
      | bk ρ2 =>
        rw [e2] at qi
        exact fun σ3 Z3 H3 r3 s3 => qi _ _ _ (r3.forgets ks) (x2.zz.trans s3)
      | ret d => rw [e2] at qi; exact qi
      | exc x ρ2 => rw [e2] at qi; exact fun cls dx σ3 Z3 H3 r3 s3 rx => (show SPost X W Z0 H0 Zi (.exc x ρ2) En from qi) cls dx σ3 Z3 H3 r3 (x2.zz.trans s3) rx
      | stuck => rw [e2] at qi; exact qi.elim
  · have ei : i = ds.length := by omega
    subst ei
    rw [List.drop_length] at qi
    exact .inl ⟨io.stop si ri.zh, qi _ _ _ ri (Same.refl _)⟩
theorem es_while (ks : List Nat) (hp : PassesOwn (model X.prog X.w) X.A X.env X.xe) (ht : Et X W c T) (hb : Ess X W body S) : Es X W (.While c body [] pos) (sWhile T S ks) := by
  refine ⟨fun {Z0 H0 Z H σ ρ En} r q => toAtS (ps_while hp pt_at pss_at) ?_⟩
  refine ⟨fun m σi Hi => ∃ Zi ρi, Rep X.w X.K Z0 H0 Zi Hi σi ρi ∧ SPost X W Z0 H0 Zi (whN T S ks m ρi) En, ⟨_, Z, _, r.forgets ks, q⟩, ?_⟩
  rintro m σi Hi ⟨Zi, ρi, ri, qi⟩
  cases m with
  | zero => exact qi.elim
  | succ m =>
    rw [whN] at qi
    refine ht.go ri ((qi.post ri).mono fun b qi Z1 H1 x1 => ?_)
    cases b with
    | false =>
      rw [if_neg Bool.false_ne_true] at qi
      exact qi _ _ _ (ri.step x1) x1.zz
    | true =>
      rw [if_pos rfl] at qi
      refine ⟨fun σ' H' => ∃ Zi ρi, Rep X.w X.K Z0 H0 Zi H' σ' ρi ∧ SPost X W Z0 H0 Zi (whN T S ks m ρi) En, fun σ' H' h => ⟨m, Nat.lt_succ_self m, h⟩, ?_⟩
      refine hb.go (ri.step x1) ?_
      have qi : SPost X W Z0 H0 Zi (match S ρi with
        | .nx ρ2 => whN T S ks m (wipeR ρ2 ks)
        | .ct ρ2 => whN T S ks m (wipeR ρ2 ks)
        | .bk ρ2 => .nx (wipeR ρ2 ks)
        | o => o) En := qi
      cases e2 : S ρi with
      | nx ρ2 =>
        rw [e2] at qi
        exact fun σ3 Z3 H3 r3 s3 => ⟨Z3, _, r3.forgets ks, SPost.step qi (x1.zz.trans s3)⟩
      | ct ρ2 =>
        rw [e2] at qi
        exact fun σ3 Z3 H3 r3 s3 => ⟨Z3, _, r3.forgets ks, SPost.step qi (x1.zz.trans s3)⟩
      | bk ρ2 =>
        rw [e2] at qi
        exact fun σ3 Z3 H3 r3 s3 => qi _ _ _ (r3.forgets ks) (x1.zz.trans s3)
      | ret d => rw [e2] at qi; exact qi
      | exc x ρ2 => rw [e2] at qi; exact fun cls dx σ3 Z3 H3 r3 s3 rx => (show SPost X W Z0 H0 Zi (.exc x ρ2) En from qi) cls dx σ3 Z3 H3 r3 (x1.zz.trans s3) rx
      | stuck => rw [e2] at qi; exact qi.elim

/-! ### name = [.. for ..] on one line -/
theorem es_setLc {i : Nat} {y : Str} {py : Pos} {elt : Expr} {ifs : List Expr} {scope : Scope} {own : List (Str × Nat)} {spos : Pos} {F : EV} (hc : X.calm = true) (hN : X.N.Nodup) (hy : X.N[i]? = some y) (hyl : X.env.scope.names.lookup y = some .local)
    (hsw : swapsWith (.ListComp elt [⟨tg, iter, ifs, 0⟩] scope pos) (some (.Name y py)) spos.line X.env = pure true) (hi : Ei X W tg iter Fi) (ok : BlkOk X.N X.env.scope scope own)
    (hg : ∀ (s : Shared) (H : Hp) (C : Addr) (cl : List (Str × Addr)) (fp : List Addr), Eg (X.blk s H scope (compEnvC scope cl C X.env) fp) tg A js) (hjs : ∀ j ∈ js, j ∈ own.map (·.2))
    (ht : ∀ (s : Shared) (H : Hp) (C : Addr) (cl : List (Str × Addr)) (fp : List Addr), Ets (X.blk s H scope (compEnvC scope cl C X.env) fp) ifs T)
    (he : ∀ (s : Shared) (H : Hp) (C : Addr) (cl : List (Str × Addr)) (fp : List Addr), Ev (X.blk s H scope (compEnvC scope cl C X.env) fp) WF elt F) (hs : ∀ x, foldedSetIterable iter X.env x = pure x := by intro _; rfl) :
    Es X W (.Assign [.Name y py] (.ListComp elt [⟨tg, iter, ifs, 0⟩] scope pos) spos) (sSet i (mO (eComp Fi A T F (own.map (·.2))))) := by
  refine ⟨fun {Z0 H0 Z H σ ρ En} r q => toAtS (ps_setLc (g := fun v σ H Q => ∀ s H0 C cl fp, PGat (X.blk s H0 scope (compEnvC scope cl C X.env) fp) tg v σ H Q)
    (tt := fun σ H Q => ∀ s H0 C cl fp, PTsat (X.blk s H0 scope (compEnvC scope cl C X.env) fp) ifs σ H Q)
    (te := fun σ H Q => ∀ s H0 C cl fp, PEat (X.blk s H0 scope (compEnvC scope cl C X.env) fp) elt σ H Q) hc hN hy hyl hsw pi_at ok ?_ ?_ ?_ hs) ?_⟩
  · exact fun s H C cl fp => ⟨fun pins s' σ H' v u Q I rv h => (h s H C cl fp) pins s' u I rv⟩
  · exact fun s H C cl fp => ⟨fun pins s' σ H' Q I h => pts_at.run pins s' σ H' Q I (h s H C cl fp)⟩
  · exact fun s H C cl fp => ⟨fun pins s' σ H' Q I h => (h s H C cl fp) pins s' I⟩
  · refine lc_read hi hg hjs ht he r (Q := fun x H1 => gName i x σ H1 En.nx) ?_
    have q := q.post r
    refine q.bind.mono fun d hd a Z' H' x hn ho => ?_
    exact hd _ _ _ (r.put x i ⟨a, rfl, hn, ho⟩) x.zz

/-! ### what a def promises -/
/-- arguments that bear ds; an end that bears F ds -/
def spF (w : World) (K : PySem.W.Frag) (mg : Str → Option Value) (n : Nat) (F : List D → R D) : Sp := fun vs H Q E => ∃ Z ds, Same Z H ∧ RDs w K Z vs ds ∧ vs.length = n ∧
  match F ds with
  | .ok d => ∀ v Z' H', Ext Z H Z' H' → RD w K Z' v d → Q v H'
  | .exc x => ∀ cls dx Z' H', Ext Z H Z' H' → RX w K mg Z' x cls dx → E cls dx H'
  | .stuck => False
/-- the end of a body -/
def Out.res : Out → R D
  | .nx _ => .ok .none
  | .ret d => .ok d
  | .exc x _ => .exc x
  | _ => .stuck
def rho0 (N : List Str) (ds : List D) : Rho := ds.map .f ++ List.replicate (N.length - ds.length) .u
def runD (n : Nat) (S : ES) (ds : List D) : R D := (S (ds.map .f ++ List.replicate (n - ds.length) .u)).res
theorem rds_slots {w : World} {K : PySem.W.Frag} : ∀ {vs : List V} {ds : List D}, RDs w K Z vs ds → ∀ (m : Nat) (i : Nat) (c : Option V) (s : Sl), (vs.map some ++ List.replicate m none)[i]? = some c → (ds.map Sl.f ++ List.replicate m .u)[i]? = some s → SlRep w K H0 Z H c s
  | _, _, .nil, m, i, c, s, h1, h2 => by
    simp only [List.map_nil, List.nil_append] at h1 h2
    have := List.mem_of_getElem? h2
    rw [List.mem_replicate] at this
    rw [this.2]; trivial
  | _, _, .cons rv rt, m, 0, c, s, h1, h2 => by
    simp at h1 h2
    subst h1 h2
    exact ⟨_, rfl, rv⟩
  | _, _, .cons rv rt, m, i + 1, c, s, h1, h2 => rds_slots rt m i c s (by simpa using h1) (by simpa using h2)
theorem rds_noOwn {H : Hp} {c : Option V} {b : Addr} {t : Sl} : ∀ (ds : List D) (m i : Nat), (ds.map Sl.f ++ List.replicate m .u)[i]? = some t → ¬ OwnsA H c t b
  | [], m, i, h => by
    have := List.mem_of_getElem? h
    simp at this
    rw [this.2]
    exact fun o => o
  | e :: ds, m, 0, h => by
    simp at h
    rw [← h]
    exact fun o => o
  | e :: ds, m, i + 1, h => rds_noOwn ds m i (by simpa using h)
theorem rep_start {w : World} {K : PySem.W.Frag} {vs : List V} {ds : List D} (N : List Str) (s : Same Z H) (r : RDs w K Z vs ds) : Rep w K Z H Z H (L2.start N vs) (ds.map Sl.f ++ List.replicate (N.length - ds.length) .u) := by
  unfold L2.start
  rw [r.length]
  refine ⟨Ext.refl s, by simp [r.length], fun i c s h1 h2 => rds_slots r _ i c s h1 h2, fun i j c e s t b _ _ _ h1 _ o _ => rds_noOwn ds _ i h1 o⟩
section
variable {P : Program} {w : World} {K : PySem.W.Frag} {mg : Str → Option Value} {base : Heap}
/-- the wish of a def's body -/
abbrev WD (E : XK) : WX := fun cls d _ H => E cls d H
theorem fn_ok {x qual : Str} {st : Stmt} {f : Addr} {fd : FuncData} {N ps : List Str} {k : Nat} {S : ES} (F : Fun K x qual st f fd) (Sc : FnScope N ps (defScope st))
    (hbody : ∀ (cdv : Value) (A : Around) (outer : List Env) (s : Shared) (H : Hp) (E : XK), Room k (A.deeper (envOfC qual (defScope st) s.heap.objs.size f cdv)) →
      Ess (cxOf (L2.CX P w) P w K mg base N qual (defScope st) f cdv A outer s H E) (WD E) (defBody st) S) :
    FnOk P w K mg base (L2.CX P w) (k + 1) f fd ps (spF w K mg ps.length (runD N.length S)) := by
  refine F.okX Sc (fun vs H Q E h => ?_) fun cdv A outer s H vs Q E hr h => ?_
  · obtain ⟨Z, ds, _, _, h, _⟩ := h; exact h
  · obtain ⟨Z, ds, sz, rd, hl, h⟩ := h
    refine ⟨_, pss_at, (hbody cdv A outer s H E hr).go (rep_start (w := w) (K := K) N sz rd) ?_⟩
    unfold runD at h
    cases e : S (ds.map Sl.f ++ List.replicate (N.length - ds.length) .u) with
    | nx ρ => rw [e] at h; exact fun σ' Z' H' r' _ => h _ _ _ r'.ext .non
    | ret d => rw [e] at h; exact fun v Z' H' x rd => h _ _ _ x rd
    | exc x ρ => rw [e] at h; exact fun cls dx σ' Z' H' r' _ rx => h _ _ _ _ r'.ext rx
    | bk ρ => rw [e] at h; exact h.elim
    | ct ρ => rw [e] at h; exact h.elim
    | stuck => rw [e] at h; exact h.elim
/-- the context of a body: what the rules ask -/
theorem tk_def {N : List Str} {qual : Str} {scope : Scope} {f : Addr} {cd : Value} {A : Around} {outer : List Env} {s : Shared} {H : Hp} {E : XK} :
    Takes (cxOf (L2.CX P w) P w K mg base N qual scope f cd A outer s H E) (WD E) := takes_of rfl rfl rfl rfl
theorem po_def {N : List Str} {qual : Str} {scope : Scope} {f : Addr} {cd : Value} {A : Around} {outer : List Env} {s : Shared} {H : Hp} {E : XK} :
    PassesOwn (model P w) (A.deeper (envOfC qual scope s.heap.objs.size f cd)) (envOfC qual scope s.heap.objs.size f cd) (cxOf (L2.CX P w) P w K mg base N qual scope f cd A outer s H E).xe := PassesOwn.leaving
end
theorem hu_room {A : Around} {k : Nat} (h : Room k A) : A.units + 100 < cLine := by
  have := h.un
  omega

/-! ### calls -/
def eCall (F : List D → R D) (Fs : EA) : EV := fun ρ => Fs ρ >>= F
variable {a e : Expr} {es : List Expr} {Fs : EA}
theorem ev_call {k n : Nat} {f : Addr} {fd : FuncData} {ps : List Str} {F : List D → R D} {x : Str} (G : FnOk X.prog X.w X.K X.mg X.base (L2.CX X.prog X.w) k f fd ps (spF X.w X.K X.mg n F)) (hn : (e :: es).length = n) (tk : Takes X W) (hr : Room k X.A) (hm : X.mg x = some (.ref f))
    (hk : PySem.W.keepIn X.K (.ref f) = true) (hb : Binds X.K fd ps []) (ha : Ea X W (e :: es) Fs) (hg : Gl X x := by rfl) (hdb : (x == ("__debug__" : Str)) = false := by decide) :
    Ev X W (.Call (.Name x p) (e :: es) [] pos) (eCall F Fs) := by
  refine ⟨fun {Z0 H0 Z H σ ρ Q} r q => toAt (pe_callS G hr hg hm hk hb (fun σ => passAt tk σ) pa_at hdb (ha.se _ _ rfl) (ha.plt _ _ rfl _)) ?_⟩
  refine ha.go r (q.bind.eq.mono fun ds hd vs Z1 H1 x1 r1 => ?_)
  obtain ⟨hd0, hd⟩ := hd
  refine ⟨Z1, ds, x1.zh, r1, by rw [r1.length, ha.len ρ ds hd0, hn], ?_⟩
  cases e1 : F ds with
  | ok d => rw [e1] at hd; exact fun v Z' H' x rd => hd _ _ _ (x1.trans x) rd
  | exc x => rw [e1] at hd; exact fun cls dx Z' H' x rx => hd _ _ _ _ (x1.trans x) rx
  | stuck => rw [e1] at hd; exact hd.elim

/-! ### raise X('..'), X an own class without own __init__ -/
structure OwnX (X : Cx) (x : Str) (C : Addr) : Prop where
  gC : X.mg x = some (.ref C)
  xP : PySem.W.excIn X.K C [.type "ValueError", .type "Exception", .type "BaseException", .type "object"] "ValueError.__new__" = true
  kP : PySem.W.keepIn X.K (.ref C) = true
  bP : PySem.W.subIn X.K (.ref C) (.type "BaseException") = some true
  tP : PySem.W.typeIn X.K (.ref C) = some (.type "type")
def sRaise (n : Str) : ES := fun ρ => .exc ⟨n, []⟩ ρ
theorem es_raise {x m : Str} {C : Addr} {j : Nat} {p2 p3 : Pos} (hc : X.calm = true) (tk : Takes X W) (o : OwnX X x C) (hg : Gl X x := by rfl) (hdb : (x == ("__debug__" : Str)) = false := by decide) :
    Es X W (.Raise (some (.Call (.Name x p) [.Constant (.str m) j p2] [] p3)) none pos) (sRaise x) := by
  refine ⟨fun {Z0 H0 Z H σ ρ En} r q => toAtS (ps_raise hc tk (pmk_own PySem.F.excBase_ValueError o.xP o.gC o.kP (raises_own o.bP o.tP) hg hdb)) ?_⟩
  exact q _ _ _ _ _ r (Same.refl _) (.bare o.gC)
end
end PQ

/-! PQ.10: the script -/
namespace PQ
open PySem PySem.Spec PyProof.Rows L2
open PySem.W (alike alikeAll dataLt rcLt_alike)

/-! ### script[:63] -/
def eCutS (i : Nat) (P P' : EP') : EV := fun ρ => match ρ[i]? with
  | some (.s ns) => P ρ >>= fun lo => P' ρ >>= fun hi => .ok (.list (cutL (ns.map .int) lo hi))
  | _ => .stuck
section
variable {X : Cx} {W : WX} {a b c e : Expr} {es rest : List Expr} {pos p : Pos} {F G I : EV} {T U : ET} {Fs : EA}
theorem sqL_mono {K : PySem.W.Frag} {Z H : Hp} (s : Same Z H) {p : Addr} {xs : List V} (h : SqL K Z p xs) : SqL K H p xs := by
  rcases h with (h | ⟨o, h⟩) | h
  · exact .inl (.inl (s _ _ h))
  · exact .inl (.inr ⟨o, s _ _ h⟩)
  · exact .inr h
theorem int_rds {w : World} {K : PySem.W.Frag} {Z : Hp} : ∀ ns : List Int, RDs w K Z (ns.map V.int) (ns.map .int)
  | [] => .nil
  | n :: ns => .cons (.int n) (int_rds ns)
theorem ev_cutS (i : Nat) {x : Str} {lo hi : Option Expr} {P P' : EP'} {p2 : Pos} (hl : Ep X W lo P) (hh : Ep X W hi P') (hN : X.N[i]? = some x := by rfl) (hv : Vis X.env.scope x := by first | exact Or.inl rfl | exact Or.inr (Or.inl rfl) | exact Or.inr (Or.inr rfl)) (hd : (x == ("__debug__" : Str)) = false := by decide)
    (hcd : (x == ("__classdict__" : Str)) = false := by decide) : Ev X W (.Subscript (.Name x p) (.Slice lo hi none p2) pos) (eCutS i P P') := by
  refine ⟨fun {Z0 H0 Z H σ ρ Q} r q => toAt (pe_slice sl_all (pe_var hN hv hd hcd) po_at po_at) ?_⟩
  unfold eCutS at q
  split at q
  · rename_i ns hr
    obtain ⟨c, h1, a, rfl, hS⟩ := r.getS hr
    refine ⟨.ref a, h1, ?_⟩
    refine hl.go r (q.bind.mono fun l hl Z2 H2 x2 => ?_)
    refine hh.go (r.step x2) ((hl.bind.step x2).mono fun u hu Z3 H3 x3 => ?_)
    have hS3 : SqL X.K H3 a (ns.map V.int) := sqL_mono ((r.ext.hh.trans x2.hh).trans x3.hh) hS
    refine .inl ⟨a, _, rfl, hS3, fun o no => ?_⟩
    refine hu _ _ _ ((x2.trans x3).trans (Ext.new x3.zh no)) (.lst upd_same ?_)
    exact RDs.cut (int_rds ns) l u
  · exact q.elim

/-! ### f(script, ..) -/
def spS (w : World) (K : PySem.W.Frag) (mg : Str → Option Value) (n : Nat) (F : List Int → List D → R D) : Sp := fun vs H Q E => ∃ Z a ns us ds, vs = .ref a :: us ∧ Same Z H ∧ SqL K H a (ns.map V.int) ∧ RDs w K Z us ds ∧ vs.length = n ∧
  match F ns ds with
  | .ok d => ∀ v Z' H', Ext Z H Z' H' → RD w K Z' v d → Q v H'
  | .exc x => ∀ cls dx Z' H', Ext Z H Z' H' → RX w K mg Z' x cls dx → E cls dx H'
  | .stuck => False
def runS (n : Nat) (S : ES) (ns : List Int) (ds : List D) : R D := (S (.s ns :: (ds.map .f ++ List.replicate (n - (ds.length + 1)) .u))).res
section
variable {P : Program} {w : World} {K : PySem.W.Frag} {mg : Str → Option Value} {base : Heap} {Z H : Hp}
theorem rep_startS {vs : List V} {ds : List D} {a : Addr} {ns : List Int} (N : List Str) (s : Same Z H) (hS : SqL K H a (ns.map V.int)) (r : RDs w K Z vs ds) :
    Rep w K Z H Z H (L2.start N (.ref a :: vs)) (.s ns :: (ds.map Sl.f ++ List.replicate (N.length - (ds.length + 1)) .u)) := by
  unfold L2.start
  rw [List.length_cons, r.length]
  refine ⟨Ext.refl s, by simp [r.length], fun i c s' h1 h2 => ?_, fun i j c e s' t b _ _ _ h1 _ o _ => ?_⟩
  · cases i with
    | zero =>
      simp at h1 h2
      subst h1 h2
      exact ⟨a, rfl, hS⟩
    | succ i => exact rds_slots r _ i c s' (by simpa using h1) (by simpa using h2)
  · cases i with
    | zero =>
      simp at h1
      rw [← h1] at o
      exact o
    | succ i => exact rds_noOwn ds _ i (by simpa using h1) o
theorem fn_okS {x qual : Str} {st : Stmt} {f : Addr} {fd : FuncData} {N ps : List Str} {k : Nat} {S : ES} (F : Fun K x qual st f fd) (Sc : FnScope N ps (defScope st))
    (hbody : ∀ (cdv : Value) (A : Around) (outer : List Env) (s : Shared) (H : Hp) (E : XK), Room k (A.deeper (envOfC qual (defScope st) s.heap.objs.size f cdv)) →
      Ess (cxOf (L2.CX P w) P w K mg base N qual (defScope st) f cdv A outer s H E) (WD E) (defBody st) S) :
    FnOk P w K mg base (L2.CX P w) (k + 1) f fd ps (spS w K mg ps.length (runS N.length S)) := by
  refine F.okX Sc (fun vs H Q E h => ?_) fun cdv A outer s H vs Q E hr h => ?_
  · obtain ⟨Z, a, ns, us, ds, e, _, _, _, h, _⟩ := h; exact h
  · obtain ⟨Z, a, ns, us, ds, rfl, sz, hS, rd, hl, h⟩ := h
    refine ⟨_, pss_at, (hbody cdv A outer s H E hr).go (rep_startS (w := w) (K := K) N sz hS rd) ?_⟩
    unfold runS at h
    cases e : S (.s ns :: (ds.map Sl.f ++ List.replicate (N.length - (ds.length + 1)) .u)) with
    | nx ρ => rw [e] at h; exact fun σ' Z' H' r' _ => h _ _ _ r'.ext .non
    | ret d => rw [e] at h; exact fun v Z' H' x rd => h _ _ _ x rd
    | exc x ρ => rw [e] at h; exact fun cls dx σ' Z' H' r' _ rx => h _ _ _ _ r'.ext rx
    | bk ρ => rw [e] at h; exact h.elim
    | ct ρ => rw [e] at h; exact h.elim
    | stuck => rw [e] at h; exact h.elim
end
def eCallS (i : Nat) (F : List Int → List D → R D) (Fs : EA) : EV := fun ρ => match ρ[i]? with
  | some (.s ns) => Fs ρ >>= F ns
  | _ => .stuck
theorem ev_callS (i : Nat) {k n : Nat} {f : Addr} {fd : FuncData} {ps : List Str} {F : List Int → List D → R D} {x y : Str} (G : FnOk X.prog X.w X.K X.mg X.base (L2.CX X.prog X.w) k f fd ps (spS X.w X.K X.mg n F)) (hn : es.length + 1 = n) (tk : Takes X W) (hr : Room k X.A) (hm : X.mg x = some (.ref f))
    (hk : PySem.W.keepIn X.K (.ref f) = true) (hb : Binds X.K fd ps []) (ha : Ea X W es Fs) {p' : Pos} (he : starEach (.Name y p' :: es) X.env = (false, eval (.Name y p') X.env) :: starEach es X.env := by rfl) (hg : Gl X x := by rfl) (hdb : (x == ("__debug__" : Str)) = false := by decide)
    (hN : X.N[i]? = some y := by rfl) (hv : Vis X.env.scope y := by first | exact Or.inl rfl | exact Or.inr (Or.inl rfl) | exact Or.inr (Or.inr rfl)) (hd : (y == ("__debug__" : Str)) = false := by decide)
    (hcd : (y == ("__classdict__" : Str)) = false := by decide) :
    Ev X W (.Call (.Name x p) (.Name y p' :: es) [] pos) (eCallS i F Fs) := by
  refine ⟨fun {Z0 H0 Z H σ ρ Q} r q => toAt (pe_callS G hr hg hm hk hb (fun σ => passAt tk σ) (pa_cons (pe_var hN hv hd hcd) pa_at he) hdb he (ha.pl _)) ?_⟩
  unfold eCallS at q
  split at q
  · rename_i ns hrn
    obtain ⟨c, h1, a, rfl, hS⟩ := r.getS hrn
    refine ⟨.ref a, h1, ?_⟩
    refine ha.go r (q.bind.eq.mono fun ds hd vs Z1 H1 x1 r1 => ?_)
    obtain ⟨hd0, hd⟩ := hd
    refine ⟨Z1, a, ns, vs, ds, rfl, x1.zh, sqL_mono (r.ext.hh.trans x1.hh) hS, r1, by rw [List.length_cons, r1.length, ha.len ρ ds hd0, hn], ?_⟩
    cases e1 : F ns ds with
    | ok d => rw [e1] at hd; exact fun v Z' H' x rd => hd _ _ _ (x1.trans x) rd
    | exc x => rw [e1] at hd; exact fun cls dx Z' H' x rx => hd _ _ _ _ (x1.trans x) rx
    | stuck => rw [e1] at hd; exact hd.elim
  · exact q.elim
/-- the law's promise, asked as walk_of asks it -/
theorem law_sp {w : World} {K : PySem.W.Frag} {mg : Str → Option Value} {F : List Int → List D → R D} (hF : ∀ ns : List Int, ns.length ≤ 63 → F ns [] = .ok (.bool true)) (H : Hp) (a : Addr) (ns : List Int) (hl : ns.length ≤ 63) (hS : SqL K H a (ns.map V.int)) :
    spS w K mg 1 F [.ref a] H (fun v _ => v = .bl true) fun _ _ _ => False := by
  refine ⟨fun _ => none, a, ns, [], [], rfl, fun _ _ e => (by cases e), hS, .nil, rfl, ?_⟩
  rw [hF ns hl]
  exact fun v Z' H' _ rd => rd_bool rd
end
end PQ

/-! PQ.11: recursion, the law -/
namespace PQ
open PySem PySem.Spec PyProof.Rows L2
open PySem.W (alike alikeAll dataLt rcLt_alike)

section
variable {P : Program} {w : World} {K : PySem.W.Frag} {mg : Str → Option Value} {base : Heap} {Z H : Hp}
theorem fn_stuck {CX : CXT} {k n : Nat} {f : Addr} {fd : FuncData} {ps : List Str} : FnOk P w K mg base CX k f fd ps (spF w K mg n fun _ => .stuck) :=
  ⟨fun vs H Q E h => by obtain ⟨Z, ds, _, _, _, h⟩ := h; exact h.elim, fun A outer s H args us vs Q E hr he hb hv h => by obtain ⟨Z, ds, _, _, _, h⟩ := h; exact h.elim⟩
theorem FnOk.up {CX : CXT} {j k : Nat} {f : Addr} {fd : FuncData} {ps : List Str} {sp : Sp} (F : FnOk P w K mg base CX j f fd ps sp) (h : j ≤ k) : FnOk P w K mg base CX k f fd ps sp := F.mono h
/-- a constant tuple -/
theorem gc_tup {a : Addr} {o : Obj} {xs : List V} {its : Array Value} {n : Nat} (h : K.lookup a = some o) (hc : o.cls = .type "tuple") (hs : o.data = .seq its n) (hz : its.size ≤ sizeLine) (hv : Vals xs its.toList) : SqT K (fun _ => none) a xs := .inr ⟨o, its, n, h, hc, hs, hz, hv⟩
def spLaw (K : PySem.W.Frag) : Sp := fun vs H Q _ => ∃ (a : Addr) (ns : List Int), vs = [.ref a] ∧ SqL K H a (ns.map V.int) ∧ ns.length ≤ 63 ∧ ∀ H', Q (.bl true) H'
theorem law_imp {F : List Int → List D → R D} (hF : ∀ ns : List Int, ns.length ≤ 63 → F ns [] = .ok (.bool true)) {vs : List V} {H : Hp} {Q : VK} {E : XK} (h : spLaw K vs H Q E) : spS w K mg 1 F vs H Q E := by
  obtain ⟨a, ns, rfl, hS, hl, q⟩ := h
  refine ⟨fun _ => none, a, ns, [], [], rfl, fun _ _ e => (by cases e), hS, .nil, rfl, ?_⟩
  rw [hF ns hl]
  exact fun v Z' H' _ rd => by rw [rd_bool rd]; exact q _
theorem cx_false {outer : List Env} {H : Hp} {s : Shared} {e : Value} {s' : Shared} (h : L2.CX P w outer H s (fun _ _ _ => False) e s') : False := by
  obtain ⟨_, _, _, _, _, _, _, _, _, _, _, _, z⟩ := h
  exact z
end
section
variable {X : Cx} {W : WX} {st : Stmt}
theorem set_set {α : Type} (l : List α) (i : Nat) (a b : α) : (l.set i a).set i b = l.set i b := by simp
theorem es_setF {i : Nat} {F : EV} (h : Es X W st (sSet i (mO F))) : Es X W st (sSet i (mF F)) := by
  refine ⟨fun {Z0 H0 Z H σ ρ En} r q => h.go r ?_⟩
  unfold sSet mF at q
  unfold sSet mO
  cases e : F ρ with
  | exc x => rw [e] at q; exact q
  | stuck => rw [e] at q; exact q
  | ok d =>
    rw [e] at q
    intro σ' Z' H' r' s'
    by_cases hi : i < ρ.length
    · have g : (ρ.set i (.o d))[i]? = some (.o d) := by simp [hi]
      obtain ⟨Z2, r2, s2⟩ := r'.freeze g
      rw [set_set] at r2
      exact q _ _ _ r2 (s'.trans s2)
    · have e1 : ρ.set i (.o d) = ρ := List.set_eq_of_length_le (by omega)
      have e2 : ρ.set i (.f d) = ρ := List.set_eq_of_length_le (by omega)
      have q : SPost X W Z0 H0 Z (.nx (ρ.set i (.f d))) En := q
      rw [e2] at q
      rw [e1] at r'
      exact q _ _ _ r' s'
end
end PQ

/-! PQ.12: single comparisons as tests -/
namespace PQ
open PySem PySem.Spec PyProof.Rows L2
open PySem.W (alike alikeAll dataLt rcLt_alike)

section
variable {X : Cx} {W : WX} {a b c e : Expr} {es rest : List Expr} {pos p : Pos} {F G I : EV} {T U : ET} {Fs : EA}
theorem et_2 {op : CmpOp} {r : R2} {f : D → D → R D} (h1 : OpR X (compareOp op) r) (o1 : OpD X r f) (c1 : ∀ x y, (f x y).clean) (ha : Ev X W a F) (hb : Ev X W b G) (hm : behindInMarks op b = false) : Et X W (.Compare a [op] [b] pos) (tV (e2 f F G)) := by
  refine ⟨fun {Z0 H0 Z H σ ρ Q} r q => toAtT (pt_cmpR h1 pe_at pe_at hm) ?_⟩
  refine ha.go r (q.bind.bind.mono fun d hd v Z1 H1 x1 r1 => ?_)
  have hd := hd.step x1
  refine hb.go (r.step x1) (hd.bind.mono fun d2 hd2 v2 Z2 H2 x2 r2 => ?_)
  refine o1 Z2 H2 v v2 d d2 _ x2.zh (r1.mono x2.zz) r2 ?_
  have p := hd2.to0 (c1 d d2)
  cases hf : f d d2 with
  | ok z =>
    rw [hf] at p
    intro v3 Z3 H3 x3 r3
    cases z with
    | bool k => cases r3; exact ⟨k, rfl, p _ _ ((x1.trans x2).trans x3)⟩
    | _ => exact p.elim
  | exc x => rw [hf] at p; exact p.elim
  | stuck => rw [hf] at p; exact p.elim
theorem et_eq (hu : HasRoom X) (ha : Ev X W a F) (hb : Ev X W b G) : Et X W (.Compare a [.Eq] [b] pos) (tV (e2 dEq F G)) := et_2 (op_eqP (by have : X.A.units + 100 < cLine := hu; omega)) od_eq cl_eq ha hb (nomark _)
theorem et_ne (hu : HasRoom X) (ha : Ev X W a F) (hb : Ev X W b G) : Et X W (.Compare a [.NotEq] [b] pos) (tV (e2 dNe F G)) := et_2 (op_neP (by have : X.A.units + 100 < cLine := hu; omega)) od_ne cl_ne ha hb (nomark _)
theorem et_lt (hu : HasRoom X) (ha : Ev X W a F) (hb : Ev X W b G) : Et X W (.Compare a [.Lt] [b] pos) (tV (e2 dLt F G)) := et_2 (op_lt.or (op_ltP (by have : X.A.units + 100 < cLine := hu; omega))) od_lt cl_lt ha hb (nomark _)
theorem et_le (ha : Ev X W a F) (hb : Ev X W b G) : Et X W (.Compare a [.LtE] [b] pos) (tV (e2 dLe F G)) := et_2 op_le od_le cl_le ha hb (nomark _)
theorem et_gt (ha : Ev X W a F) (hb : Ev X W b G) : Et X W (.Compare a [.Gt] [b] pos) (tV (e2 dGt F G)) := et_2 op_gt od_gt cl_gt ha hb (nomark _)
theorem et_ge (ha : Ev X W a F) (hb : Ev X W b G) : Et X W (.Compare a [.GtE] [b] pos) (tV (e2 dGe F G)) := et_2 op_ge od_ge cl_ge ha hb (nomark _)
theorem et_in (hu : HasRoom X) (ha : Ev X W a F) (hb : Ev X W b G) (hm : behindInMarks .In b = false := by rfl) : Et X W (.Compare a [.In] [b] pos) (tV (e2 dIn F G)) := et_2 (op_inP hu) od_in cl_in ha hb hm
theorem et_notIn (hu : HasRoom X) (ha : Ev X W a F) (hb : Ev X W b G) (hm : behindInMarks .NotIn b = false := by rfl) : Et X W (.Compare a [.NotIn] [b] pos) (tV (e2 dNotIn F G)) := et_2 (op_notInP hu) od_notIn cl_notIn ha hb hm
theorem et_isN {j p} (ha : Ev X W a F) : Et X W (.Compare a [.Is] [.Constant .none j p] pos) (tV (e1 dIsN F)) := by
  refine ⟨fun {Z0 H0 Z H σ ρ Q} r q => toAtT (pt_cmp (pc_isN pe_at) rfl) ?_⟩
  refine ha.go r (q.bind.bind.mono fun d hd v Z1 H1 x1 r1 => ?_)
  refine ⟨decide (v = .non), rfl, ?_⟩
  rw [rd_none r1]
  exact hd _ _ x1
theorem et_notN {j p} (ha : Ev X W a F) : Et X W (.Compare a [.IsNot] [.Constant .none j p] pos) (tV (e1 dNotN F)) := by
  refine ⟨fun {Z0 H0 Z H σ ρ Q} r q => toAtT (pt_cmp (pc_notN pe_at) rfl) ?_⟩
  refine ha.go r (q.bind.bind.mono fun d hd v Z1 H1 x1 r1 => ?_)
  refine ⟨!decide (v = .non), rfl, ?_⟩
  rw [rd_none r1]
  exact hd _ _ x1
end
end PQ

/-! PQ.13: how denotations compute -/
namespace PQ
open PySem PySem.Spec PyProof.Rows L2
open PySem.W (alike alikeAll dataLt rcLt_alike)

def slF : Option Sl → R D
  | some (.f d) => .ok d
  | _ => .stuck
def slS : Option Sl → R (List Int)
  | some (.s ns) => .ok ns
  | _ => .stuck
def slO : Option Sl → R (List D)
  | some (.o (.list ds)) => .ok ds
  | _ => .stuck
@[simp] theorem slF_f (d : D) : slF (some (.f d)) = .ok d := id rfl
@[simp] theorem slS_s (d : List Int) : slS (some (.s d)) = .ok d := id rfl
@[simp] theorem slO_o (d : List D) : slO (some (.o (.list d))) = .ok d := id rfl
def bor1 {α : Type} (ok : α → Bool) (s : Option Sl) (a : R α) (b : D → R α) : R α := match s with
  | some (.o d) => borR ok (b d)
  | _ => a
def Out.thn (o : Out) (k : ES) : Out := match o with
  | .nx ρ => k ρ
  | o => o
@[simp] theorem thn_nx (ρ : Rho) (k : ES) : (Out.nx ρ).thn k = k ρ := id rfl
@[simp] theorem thn_ret (d : D) (k : ES) : (Out.ret d).thn k = .ret d := id rfl
@[simp] theorem thn_bk (ρ : Rho) (k : ES) : (Out.bk ρ).thn k = .bk ρ := id rfl
@[simp] theorem thn_ct (ρ : Rho) (k : ES) : (Out.ct ρ).thn k = .ct ρ := id rfl
@[simp] theorem thn_exc (x : Exc) (ρ : Rho) (k : ES) : (Out.exc x ρ).thn k = .exc x ρ := id rfl
@[simp] theorem thn_stuck (k : ES) : Out.stuck.thn k = .stuck := id rfl
@[simp] theorem of_stuck {α : Type} (ρ : Rho) (k : α → Out) : Out.of (.stuck) ρ k = .stuck := id rfl
theorem frz_o {i : Nat} {ρ : Rho} {d : D} (h : ρ[i]? = some (.o d)) : frz i ρ = ρ.set i (.f d) := by unfold frz; rw [h]
theorem frz_f {i : Nat} {ρ : Rho} {d : D} (h : ρ[i]? = some (.f d)) : frz i ρ = ρ := by unfold frz; rw [h]
@[simp] theorem x_eNone (ρ : Rho) : eNone ρ = .ok .none := id rfl
@[simp] theorem x_eBool (b : Bool) (ρ : Rho) : eBool b ρ = .ok (.bool b) := id rfl
@[simp] theorem x_eInt (i : Int) (ρ : Rho) : eInt i ρ = .ok (.int i) := id rfl
@[simp] theorem x_eStr (x : Str) (ρ : Rho) : eStr x ρ = .ok (.str x) := id rfl
@[simp] theorem x_eD (d : D) (ρ : Rho) : eD d ρ = .ok d := id rfl
@[simp] theorem x_eVar (i : Nat) (ρ : Rho) : eVar i ρ = slF ρ[i]? := id rfl
@[simp] theorem x_eNil (ρ : Rho) : eNil ρ = .ok [] := id rfl
@[simp] theorem x_eCons (F : EV) (Fs : EA) (ρ : Rho) : eCons F Fs ρ = (F ρ >>= fun d => Fs ρ >>= fun ds => .ok (d :: ds)) := id rfl
@[simp] theorem x_eTup (Fs : EA) (ρ : Rho) : eTup Fs ρ = (Fs ρ >>= fun ds => .ok (.tuple ds)) := id rfl
@[simp] theorem x_eLst (Fs : EA) (ρ : Rho) : eLst Fs ρ = (Fs ρ >>= fun ds => .ok (.list ds)) := id rfl
@[simp] theorem x_e1 (f : D → R D) (F : EV) (ρ : Rho) : e1 f F ρ = (F ρ >>= f) := id rfl
@[simp] theorem x_e2 (f : D → D → R D) (F G : EV) (ρ : Rho) : e2 f F G ρ = (F ρ >>= fun x => G ρ >>= fun y => f x y) := id rfl
@[simp] theorem x_eA (f : List D → R D) (Fs : EA) (ρ : Rho) : eA f Fs ρ = (Fs ρ >>= f) := id rfl
@[simp] theorem x_tV (F : EV) (ρ : Rho) : tV F ρ = (F ρ >>= asB) := id rfl
@[simp] theorem x_asB (b : Bool) : asB (.bool b) = .ok b := id rfl
@[simp] theorem x_asI (i : Int) : asI (.int i) = .ok i := id rfl
@[simp] theorem x_tNotB (T : ET) (ρ : Rho) : tNotB T ρ = (T ρ >>= fun b => .ok (!b)) := id rfl
@[simp] theorem x_tAndB (T U : ET) (ρ : Rho) : tAndB T U ρ = (T ρ >>= fun b => if b = true then U ρ else .ok false) := id rfl
@[simp] theorem x_tOrB (T U : ET) (ρ : Rho) : tOrB T U ρ = (T ρ >>= fun b => if b = true then .ok true else U ρ) := id rfl
@[simp] theorem x_tTrue (ρ : Rho) : tTrue ρ = .ok true := id rfl
@[simp] theorem x_eAnd (F G : EV) (ρ : Rho) : eAnd F G ρ = (F ρ >>= fun x => asB x >>= fun b => if b = true then G ρ else .ok (.bool false)) := by unfold eAnd; cases F ρ <;> rfl
@[simp] theorem x_eOr (F G : EV) (ρ : Rho) : eOr F G ρ = (F ρ >>= fun x => asB x >>= fun b => if b = true then .ok (.bool true) else G ρ) := by unfold eOr; cases F ρ <;> rfl
@[simp] theorem x_eNot (F : EV) (ρ : Rho) : eNot F ρ = (F ρ >>= fun x => asB x >>= fun b => .ok (.bool (!b))) := by unfold eNot; cases F ρ <;> rfl
@[simp] theorem x_eIte (T : ET) (F G : EV) (ρ : Rho) : eIte T F G ρ = (T ρ >>= fun b => if b = true then F ρ else G ρ) := id rfl
@[simp] theorem x_eCh (f g : D → D → R D) (F G I : EV) (ρ : Rho) : eCh f g F G I ρ = (F ρ >>= fun x => G ρ >>= fun y => f x y >>= fun c => asB c >>= fun k => if k = true then I ρ >>= fun z => g y z else .ok (.bool false)) := by unfold eCh; cases F ρ <;> first | rfl | (rename_i x; show (G ρ >>= _) = (G ρ >>= _); cases G ρ <;> first | rfl | (rename_i y; show (f x y >>= asB >>= _) = (f x y >>= _); cases f x y <;> rfl))
@[simp] theorem x_pNone (ρ : Rho) : pNone ρ = .ok none := id rfl
@[simp] theorem x_pSome (F : EV) (ρ : Rho) : pSome F ρ = (F ρ >>= asI >>= fun i => .ok (some i)) := by unfold pSome; cases F ρ with | ok d => cases d <;> rfl | exc x => rfl | stuck => rfl
@[simp] theorem x_eCut (F : EV) (P P' : EP') (ρ : Rho) : eCut F P P' ρ = (F ρ >>= fun x => P ρ >>= fun lo => P' ρ >>= fun hi => dCut lo hi x) := id rfl
@[simp] theorem x_iSeq (F : EV) (ρ : Rho) : iSeq F ρ = (F ρ >>= seqOf) := id rfl
@[simp] theorem x_iRg1 (F : EV) (ρ : Rho) : iRg1 F ρ = (F ρ >>= fun d => asI d >>= fun n => guardR (big62 n) (rgD 0 n)) := by unfold iRg1; cases F ρ <;> rfl
@[simp] theorem x_iRg2 (F G : EV) (ρ : Rho) : iRg2 F G ρ = (F ρ >>= fun d => asI d >>= fun m => G ρ >>= fun e => asI e >>= fun n => guardR (big62 m && big62 n) (rgD m n)) := by unfold iRg2; cases F ρ with | exc x => rfl | stuck => rfl | ok d => (show (asI d >>= _) = (asI d >>= _); cases asI d with | exc x => rfl | stuck => rfl | ok m => (show (G ρ >>= asI >>= _) = (G ρ >>= _); cases G ρ <;> rfl))
@[simp] theorem x_seqOfL (ds : List D) : seqOf (.list ds) = .ok ds := id rfl
@[simp] theorem x_seqOfT (ds : List D) : seqOf (.tuple ds) = .ok ds := id rfl
@[simp] theorem x_seqOfS (z : Str) : seqOf (.str z) = .ok (signs z) := id rfl
@[simp] theorem x_eCutS (i : Nat) (P P' : EP') (ρ : Rho) : eCutS i P P' ρ = (slS ρ[i]? >>= fun ns => P ρ >>= fun lo => P' ρ >>= fun hi => .ok (.list (cutL (ns.map .int) lo hi))) := by unfold eCutS slS; cases ρ[i]? with | none => rfl | some s => cases s <;> rfl
@[simp] theorem x_eCall (F : List D → R D) (Fs : EA) (ρ : Rho) : eCall F Fs ρ = (Fs ρ >>= F) := id rfl
@[simp] theorem x_eCallS (i : Nat) (F : List Int → List D → R D) (Fs : EA) (ρ : Rho) : eCallS i F Fs ρ = (slS ρ[i]? >>= fun ns => Fs ρ >>= F ns) := by unfold eCallS slS; cases ρ[i]? with | none => rfl | some s => cases s <;> rfl
@[simp] theorem x_mF (F : EV) (ρ : Rho) : mF F ρ = (F ρ >>= fun d => .ok (.f d)) := id rfl
@[simp] theorem x_mO (F : EV) (ρ : Rho) : mO F ρ = (F ρ >>= fun d => .ok (.o d)) := id rfl
@[simp] theorem x_sNil (ρ : Rho) : sNil ρ = .nx ρ := id rfl
@[simp] theorem x_sPass (ρ : Rho) : sPass ρ = .nx ρ := id rfl
@[simp] theorem x_sBreak (ρ : Rho) : sBreak ρ = .bk ρ := id rfl
@[simp] theorem x_sContinue (ρ : Rho) : sContinue ρ = .ct ρ := id rfl
@[simp] theorem x_sCons (S S' : ES) (ρ : Rho) : sCons S S' ρ = (S ρ).thn S' := by unfold sCons Out.thn; cases S ρ <;> rfl
@[simp] theorem x_sRet (F : EV) (ρ : Rho) : sRet F ρ = Out.of (F ρ) ρ .ret := id rfl
@[simp] theorem x_sRetN (ρ : Rho) : sRetN ρ = .ret .none := id rfl
@[simp] theorem x_sExpr (F : EV) (ρ : Rho) : sExpr F ρ = Out.of (F ρ) ρ fun _ => .nx ρ := id rfl
@[simp] theorem x_sNever (ρ : Rho) : sNever ρ = .stuck := id rfl
@[simp] theorem x_sIf (T : ET) (S S' : ES) (ρ : Rho) : sIf T S S' ρ = Out.of (T ρ) ρ fun b => if b = true then S ρ else S' ρ := id rfl
@[simp] theorem x_sSet (i : Nat) (F : Rho → R Sl) (ρ : Rho) : sSet i F ρ = Out.of (F ρ) ρ fun s => .nx (ρ.set i s) := id rfl
@[simp] theorem x_sAsg (F : EV) (A : EG) (ρ : Rho) : sAsg F A ρ = Out.of (F ρ) ρ fun d => Out.of (A d ρ) ρ .nx := id rfl
@[simp] theorem x_sPar (i j : Nat) (F G : Rho → R Sl) (ρ : Rho) : sPar i j F G ρ = Out.of (F ρ) ρ fun s => Out.of (G ρ) ρ fun t => .nx ((ρ.set i s).set j t) := id rfl
@[simp] theorem x_sAug (i : Nat) (f : D → D → R D) (F : EV) (ρ : Rho) : sAug i f F ρ = Out.of (eVar i ρ) ρ fun x => Out.of (F ρ) ρ fun y => Out.of (f x y) ρ fun z => .nx (ρ.set i (.f z)) := id rfl
@[simp] theorem x_sApp (i : Nat) (F : EV) (ρ : Rho) : sApp i F ρ = Out.of (slO ρ[i]?) ρ fun ds => Out.of (F ρ) ρ fun d => Out.of (guardR (fits (ds.length + 1)) ()) ρ fun _ => .nx (ρ.set i (.o (.list (ds ++ [d])))) := by unfold sApp slO; cases ρ[i]? with | none => rfl | some s => cases s with | o d => cases d <;> rfl | _ => rfl
@[simp] theorem x_sFor (Fi : EI) (A : EG) (B : ES) (ks : List Nat) (ρ : Rho) : sFor Fi A B ks ρ = Out.of (Fi ρ) ρ fun ds => forL A B ks ds (wipeR ρ ks) := id rfl
@[simp] theorem x_sFrz (i : Nat) (S : ES) (ρ : Rho) : sFrz i S ρ = S (frz i ρ) := id rfl
@[simp] theorem x_sKill (ks : List Nat) (S : ES) (ρ : Rho) : sKill ks S ρ = oKill ks (S ρ) := id rfl
@[simp] theorem x_aName (i : Nat) (d : D) (ρ : Rho) : aName i d ρ = .ok (ρ.set i (.f d)) := id rfl
@[simp] theorem x_aTup (B : List D → Rho → R Rho) (ds : List D) (ρ : Rho) : aTup B (.tuple ds) ρ = B ds ρ := id rfl
@[simp] theorem x_aNil (ρ : Rho) : aNil [] ρ = .ok ρ := id rfl
@[simp] theorem x_aCons (A : EG) (B : List D → Rho → R Rho) (d : D) (ds : List D) (ρ : Rho) : aCons A B (d :: ds) ρ = (A d ρ >>= fun ρ' => B ds ρ') := id rfl
@[simp] theorem x_wipe0 (ρ : Rho) : wipeR ρ [] = ρ := id rfl
@[simp] theorem x_wipe1 (ρ : Rho) (v : Nat) (vs : List Nat) : wipeR ρ (v :: vs) = (wipeR ρ vs).set v .u := id rfl
@[simp] theorem x_eComp (Fi : EI) (A : EG) (T : ET) (F : EV) (vs : List Nat) (ρ : Rho) : eComp Fi A T F vs ρ = (Fi ρ >>= fun ds => guardR (fits ds.length) ds >>= fun ds => nx (compR (cStep A T F (wipeR ρ vs)) ds) >>= fun ys => .ok (.list ys)) := id rfl
@[simp] theorem x_nxok {α : Type} (a : α) : nx (.ok a : R α) = .ok a := id rfl
@[simp] theorem x_resnx (ρ : Rho) : (Out.nx ρ).res = .ok .none := id rfl
@[simp] theorem x_resret (d : D) : (Out.ret d).res = .ok d := id rfl
@[simp] theorem x_resexc (x : Exc) (ρ : Rho) : (Out.exc x ρ).res = .exc x := id rfl
@[simp] theorem x_bor (i : Nat) (F : EV) (ρ : Rho) : eBor i F ρ = bor1 noLst ρ[i]? (F ρ) (fun d => F (ρ.set i (.f d))) := by unfold eBor borRho bor1; cases ρ[i]? with | none => rfl | some s => cases s <;> rfl
@[simp] theorem x_tbor (i : Nat) (F : ET) (ρ : Rho) : tBor i F ρ = bor1 (fun _ => true) ρ[i]? (F ρ) (fun d => F (ρ.set i (.f d))) := by unfold tBor borRho bor1; cases ρ[i]? with | none => rfl | some s => cases s <;> rfl
@[simp] theorem x_obor (i : Nat) (F : EV) (ρ : Rho) : oBor i F ρ = bor1 flatO ρ[i]? (F ρ) (fun d => F (ρ.set i (.f d))) := by unfold oBor borRho bor1; cases ρ[i]? with | none => rfl | some s => cases s <;> rfl
@[simp] theorem x_bor1 {α : Type} (ok : α → Bool) (d : D) (a : R α) (b : D → R α) : bor1 ok (some (.o d)) a b = borR ok (b d) := id rfl
@[simp] theorem x_bor0 {α : Type} (ok : α → Bool) (d : D) (a : R α) (b : D → R α) : bor1 ok (some (.f d)) a b = a := id rfl
@[simp] theorem x_borR {α : Type} (ok : α → Bool) (d : α) : borR ok (.ok d) = guardR (ok d) d := id rfl
@[simp] theorem x_dAdd (i j : Int) : dAdd (.int i) (.int j) = .ok (.int (i + j)) := id rfl
@[simp] theorem x_dSub (i j : Int) : dSub (.int i) (.int j) = .ok (.int (i - j)) := id rfl
@[simp] theorem x_dIAdd (i j : Int) : dIAdd (.int i) (.int j) = .ok (.int (i + j)) := id rfl
@[simp] theorem x_dISub (i j : Int) : dISub (.int i) (.int j) = .ok (.int (i - j)) := id rfl
@[simp] theorem x_dAddS (a b : Str) : dAdd (.str a) (.str b) = guardR (fits (a.length + b.length)) (.str (a ++ b)) := id rfl
@[simp] theorem x_dAddT (a b : List D) : dAdd (.tuple a) (.tuple b) = guardR (fits (a.length + b.length)) (.tuple (a ++ b)) := id rfl
@[simp] theorem x_dAddL (a b : List D) : dAdd (.list a) (.list b) = guardR (fits (a.length + b.length)) (.list (a ++ b)) := id rfl
@[simp] theorem x_dMul (i j : Int) : dMul (.int i) (.int j) = guardR (mulOk i j) (.int (i * j)) := id rfl
@[simp] theorem x_dFdiv (i j : Int) : dFdiv (.int i) (.int j) = guardR (divOk j) (.int (i / j)) := id rfl
@[simp] theorem x_dMod (i j : Int) : dMod (.int i) (.int j) = guardR (decide (0 < j)) (.int (i % j)) := id rfl
@[simp] theorem x_dIMul (i j : Int) : dIMul (.int i) (.int j) = guardR (mulOk i j) (.int (i * j)) := id rfl
@[simp] theorem x_dIFdiv (i j : Int) : dIFdiv (.int i) (.int j) = guardR (divOk j) (.int (i / j)) := id rfl
@[simp] theorem x_dNeg (i : Int) : dNeg (.int i) = .ok (.int (-i)) := id rfl
@[simp] theorem x_dLt (i j : Int) : dLt (.int i) (.int j) = .ok (.bool (decide (i < j))) := id rfl
@[simp] theorem x_dLe (i j : Int) : dLe (.int i) (.int j) = .ok (.bool (decide (i ≤ j))) := id rfl
@[simp] theorem x_dGt (i j : Int) : dGt (.int i) (.int j) = .ok (.bool (decide (j < i))) := id rfl
@[simp] theorem x_dGe (i j : Int) : dGe (.int i) (.int j) = .ok (.bool (decide (j ≤ i))) := id rfl
@[simp] theorem x_dLtI (i j : Int) : dLtI (.int i) (.int j) = .ok (.bool (decide (i < j))) := id rfl
@[simp] theorem x_dLenL (ds : List D) : dLen [.list ds] = .ok (.int ds.length) := id rfl
@[simp] theorem x_dLenT (ds : List D) : dLen [.tuple ds] = .ok (.int ds.length) := id rfl
@[simp] theorem x_dLenS (z : Str) : dLen [.str z] = guardR (fits z.length) (.int z.length) := id rfl
@[simp] theorem x_dInt (i : Int) : dInt [.int i] = .ok (.int i) := id rfl
@[simp] theorem x_dIntB (b : Bool) : dInt [.bool b] = .ok (.int (if b then 1 else 0)) := id rfl
@[simp] theorem x_dAbs (i : Int) : dAbs [.int i] = .ok (.int (if i < 0 then -i else i)) := id rfl
@[simp] theorem x_dMax2 (i j : Int) : dMax2 [.int i, .int j] = .ok (.int (if j > i then j else i)) := id rfl
@[simp] theorem x_dMin2 (i j : Int) : dMin2 [.int i, .int j] = .ok (.int (if j < i then j else i)) := id rfl
@[simp] theorem x_dCutL (lo hi : Option Int) (ds : List D) : dCut lo hi (.list ds) = .ok (.list (cutL ds lo hi)) := id rfl
@[simp] theorem x_dCutT (lo hi : Option Int) (ds : List D) : dCut lo hi (.tuple ds) = .ok (.tuple (cutL ds lo hi)) := id rfl
@[simp] theorem x_dCutS (lo hi : Option Int) (z : Str) : dCut lo hi (.str z) = guardR (fits z.length) (.str (cutS z lo hi)) := id rfl
@[simp] theorem x_dIsN (x : D) : dIsN x = .ok (.bool (isNone x)) := id rfl
@[simp] theorem x_dNotN (x : D) : dNotN x = .ok (.bool (!isNone x)) := id rfl
@[simp] theorem x_isNonenone  : isNone .none = true := id rfl
@[simp] theorem x_isinone (T : String)  : dIsi' T .none = .ok (.bool (isaB T .none)) := id rfl
@[simp] theorem x_isNonebool (b : Bool) : isNone (.bool b) = false := id rfl
@[simp] theorem x_isibool (T : String) (b : Bool) : dIsi' T (.bool b) = .ok (.bool (isaB T (.bool b))) := id rfl
@[simp] theorem x_isNoneint (b : Int) : isNone (.int b) = false := id rfl
@[simp] theorem x_isiint (T : String) (b : Int) : dIsi' T (.int b) = .ok (.bool (isaB T (.int b))) := id rfl
@[simp] theorem x_isNonestr (b : Str) : isNone (.str b) = false := id rfl
@[simp] theorem x_isistr (T : String) (b : Str) : dIsi' T (.str b) = .ok (.bool (isaB T (.str b))) := id rfl
@[simp] theorem x_isNonelist (b : List D) : isNone (.list b) = false := id rfl
@[simp] theorem x_isilist (T : String) (b : List D) : dIsi' T (.list b) = .ok (.bool (isaB T (.list b))) := id rfl
@[simp] theorem x_isNonetuple (b : List D) : isNone (.tuple b) = false := id rfl
@[simp] theorem x_isituple (T : String) (b : List D) : dIsi' T (.tuple b) = .ok (.bool (isaB T (.tuple b))) := id rfl
@[simp] theorem x_guard {α : Type} (a : α) : guardR true a = .ok a := id rfl

/-! ### loops -/
theorem forL_cons (A : EG) (B : ES) (ks : List Nat) (d : D) (ds : List D) (ρ ρ1 ρ2 : Rho) (h1 : A d ρ = .ok ρ1) (h2 : B ρ1 = .nx ρ2 ∨ B ρ1 = .ct ρ2) : forL A B ks (d :: ds) ρ = forL A B ks ds (wipeR ρ2 ks) := by
  rw [forL, h1]
  rcases h2 with h2 | h2 <;> simp only [h2]
theorem forL_next {A : EG} {B : ES} {ks : List Nat} {d : D} {ds : List D} {ρ ρ3 : Rho} {o : Out} (ρ1 ρ2 : Rho) (h1 : A d ρ = .ok ρ1) (h2 : B ρ1 = .nx ρ2) (hw : wipeR ρ2 ks = ρ3) (h3 : forL A B ks ds ρ3 = o) : forL A B ks (d :: ds) ρ = o := by
  rw [forL_cons A B ks d ds ρ ρ1 ρ2 h1 (.inl h2), hw, h3]
/-- a for that goes through: I is kept -/
theorem forL_run {A : EG} {B : ES} {ks : List Nat} (I : Nat → Rho → Prop) : ∀ (ds : List D) (i : Nat) (ρ : Rho), I i ρ →
    (∀ (j : Nat) (d : D) (ρ : Rho), ds[j]? = some d → I (i + j) ρ → ∃ ρ1 ρ2, A d ρ = .ok ρ1 ∧ (B ρ1 = .nx ρ2 ∨ B ρ1 = .ct ρ2) ∧ I (i + j + 1) (wipeR ρ2 ks)) → ∃ ρ', forL A B ks ds ρ = .nx ρ' ∧ I (i + ds.length) ρ'
  | [], i, ρ, h, _ => ⟨ρ, rfl, h⟩
  | d :: ds, i, ρ, h, st => by
    obtain ⟨ρ1, ρ2, h1, h2, h3⟩ := st 0 d ρ rfl h
    obtain ⟨ρ', e, q⟩ := forL_run I ds (i + 1) (wipeR ρ2 ks) h3 fun j d' ρ' hd hI => by
      have := st (j + 1) d' ρ' (by simpa using hd) (by rw [show i + (j + 1) = i + 1 + j by omega]; exact hI)
      rw [show i + (j + 1) = i + 1 + j by omega] at this
      exact this
    refine ⟨ρ', ?_, by rw [List.length_cons, show i + (ds.length + 1) = i + 1 + ds.length by omega]; exact q⟩
    rw [forL_cons A B ks d ds ρ ρ1 ρ2 h1 h2, e]
/-- .. or ends within, as N says -/
theorem forL_end {A : EG} {B : ES} {ks : List Nat} (I : Nat → Rho → Prop) (N : Out → Prop) : ∀ (ds : List D) (i : Nat) (ρ : Rho), I i ρ →
    (∀ (j : Nat) (d : D) (ρ : Rho), ds[j]? = some d → I (i + j) ρ → ∃ ρ1, A d ρ = .ok ρ1 ∧ ((∃ ρ2, (B ρ1 = .nx ρ2 ∨ B ρ1 = .ct ρ2) ∧ I (i + j + 1) (wipeR ρ2 ks)) ∨ (∃ ρ2, B ρ1 = .bk ρ2 ∧ N (.nx (wipeR ρ2 ks))) ∨ (∃ v, B ρ1 = .ret v ∧ N (.ret v)) ∨ (∃ x ρ2, B ρ1 = .exc x ρ2 ∧ N (.exc x ρ2)))) →
    N (forL A B ks ds ρ) ∨ ∃ ρ', forL A B ks ds ρ = .nx ρ' ∧ I (i + ds.length) ρ'
  | [], i, ρ, h, _ => .inr ⟨ρ, rfl, h⟩
  | d :: ds, i, ρ, h, st => by
    obtain ⟨ρ1, h1, ⟨ρ2, h2, h3⟩ | ⟨ρ2, h2, h3⟩ | ⟨v, h2, h3⟩ | ⟨x, ρ2, h2, h3⟩⟩ := st 0 d ρ rfl h
    · rw [forL_cons A B ks d ds ρ ρ1 ρ2 h1 h2]
      rcases forL_end I N ds (i + 1) (wipeR ρ2 ks) h3 (fun j d' ρ' hd hI => by
        have := st (j + 1) d' ρ' (by simpa using hd) (by rw [show i + (j + 1) = i + 1 + j by omega]; exact hI)
        rw [show i + (j + 1) = i + 1 + j by omega] at this
        exact this) with q | ⟨ρ', e, q⟩
      · exact .inl q
      · exact .inr ⟨ρ', e, by rw [List.length_cons, show i + (ds.length + 1) = i + 1 + ds.length by omega]; exact q⟩
    · left; rw [forL, h1]; simp only [h2]; exact h3
    · left; rw [forL, h1]; simp only [h2]; exact h3
    · left; rw [forL, h1]; simp only [h2]; exact h3
theorem compR_ok {step : D → R (Option D)} {f : D → Option D} : ∀ {ds : List D}, (∀ d ∈ ds, step d = .ok (f d)) → compR step ds = .ok (ds.filterMap f)
  | [], _ => rfl
  | d :: ds, h => by
    rw [compR, h d List.mem_cons_self, R.ok_bind, compR_ok fun e he => h e (List.mem_cons_of_mem _ he), R.ok_bind]
    cases e : f d <;> simp [List.filterMap_cons, e]
end PQ

/-! PQ.14: the draws -/
namespace PQ
open PySem PySem.Spec PyProof.Rows L2

def S__law_draws : ES := sCons (sSet 2 (mO (eLst (eNil)))) (sCons (sSet 3 (mF (eInt 7))) (sCons (sFor (iSeq (eCutS 0 (pNone) (pSome (eInt 63)))) (aName 4) (sCons (sSet 6 (mF (eA dAbs (eCons (eVar 4) (eNil))))) (sCons (sSet 3 (mF (e2 dMod (eA dInt (eCons (e2 dAdd (e2 dAdd (e2 dMul (eVar 3) (eInt 48271)) (eVar 6)) (eInt 11)) (eNil))) (eInt 2147483647)))) (sIf (tV (e2 dGe (eVar 6) (e2 dPow (eInt 10) (eInt 18)))) (sFor (iRg1 (eInt 60)) (aName 5) (sIf (tV (e2 dGt (eVar 6) (eInt 0))) (sCons (sApp 2 (e2 dMod (eA dInt (eCons (eVar 6) (eNil))) (eInt 1009))) (sSet 6 (mF (e2 dFdiv (eVar 6) (eInt 1009))))) (sNil)) [0, 4, 5]) (sApp 2 (e2 dMod (e2 dFdiv (eA dInt (eCons (e2 dAdd (e2 dMul (eVar 3) (eInt 16807)) (eInt 5)) (eNil))) (eInt 3)) (eInt 65521)))))) [0, 4, 5, 6]) (sCons (sFor (iRg1 (eVar 1)) (aName 5) (sIf (tBor 2 (tV (e2 dLt (eA dLen (eCons (eVar 2) (eNil))) (eVar 1)))) (sCons (sSet 3 (mF (e2 dMod (eA dInt (eCons (e2 dAdd (e2 dAdd (e2 dMul (eVar 3) (eInt 69621)) (eVar 5)) (eInt 1)) (eNil))) (eInt 2147483647)))) (sApp 2 (e2 dMod (e2 dFdiv (eA dInt (eCons (eVar 3) (eNil))) (eInt 7)) (eInt 65521)))) (sNil)) [0, 4, 5, 6]) (sFrz 2 (sRet (eCut (eVar 2) (pNone) (pSome (eVar 1))))))))
def F__law_draws := runS 7 S__law_draws
/-- a draw -/
def isDraw (d : D) : Prop := ∃ n : Int, d = .int n ∧ 0 ≤ n ∧ n < 65521
theorem mulOk_r {i j : Int} (h : j.natAbs < 18446744073709551616) : mulOk i j = true := by unfold mulOk; simp [h]
theorem rgD_get {lo hi : Int} {j : Nat} {d : D} (h : (rgD lo hi)[j]? = some d) : d = .int (lo + j) ∧ j < (hi - lo).toNat := by
  unfold rgD at h
  rw [List.getElem?_map] at h
  cases e : (List.range (hi - lo).toNat)[j]? with
  | none => rw [e] at h; cases h
  | some k =>
    rw [e] at h
    have hk := List.getElem?_eq_some_iff.mp e
    obtain ⟨hk1, hk2⟩ := hk
    rw [List.getElem_range] at hk2
    subst hk2
    cases h
    exact ⟨rfl, by simpa using hk1⟩
theorem rgD_len (lo hi : Int) : (rgD lo hi).length = (hi - lo).toNat := by unfold rgD; simp
theorem cut_take {α : Type} (xs : List α) (n : Nat) : cutL xs none (some (n : Int)) = xs.take n := by
  unfold cutL
  rw [show HT.sIx xs.length xs.length (some (n : Int)) = min n xs.length from HT.sIx_nat xs.length xs.length n, HT.sIx_none, Nat.sub_zero, List.drop_zero]
  rcases Nat.le_total n xs.length with h | h
  · rw [Nat.min_eq_left h]
  · rw [Nat.min_eq_right h, List.take_length, List.take_of_length_le h]
theorem big62_ok {i : Int} (h1 : 0 ≤ i) (h2 : i < 1000000000000) : big62 i = true := by
  obtain ⟨n, rfl⟩ := Int.eq_ofNat_of_zero_le h1
  show Nat.blt n 4611686018427387904 = true
  exact Nat.ble_eq_true_of_le (by omega)
theorem fits_ok {n : Nat} (h : n ≤ 16777216) : fits n = true := by unfold fits; simpa using h
theorem divOk_ok {j : Int} (h1 : 0 < j) (h2 : j < 1073741824) : divOk j = true := by unfold divOk; simp [h1, h2]
theorem isDraw_mod {i : Int} {j : Int} (h1 : 0 < j) (h2 : j ≤ 65521) : isDraw (.int (i % j)) := ⟨i % j, rfl, Int.emod_nonneg _ (by omega), by have := Int.emod_lt_of_pos i h1; omega⟩
theorem draws_inner (s m seed : Sl) (c1 c2 : Sl) : ∀ (ds : List D) (n : Int) (hn : 0 ≤ n), (∀ d ∈ ds, isDraw d) → ∀ (js : List D), ds.length + js.length ≤ 10000 → ∃ n' es, (∀ d ∈ es, isDraw d) ∧ es.length ≤ ds.length + js.length ∧
    forL (aName 5) (sIf (tV (e2 dGt (eVar 6) (eInt 0))) (sCons (sApp 2 (e2 dMod (eA dInt (eCons (eVar 6) (eNil))) (eInt 1009))) (sSet 6 (mF (e2 dFdiv (eVar 6) (eInt 1009))))) (sNil)) [0, 4, 5] js [.u, m, .o (.list ds), seed, .u, .u, .f (.int n)] = .nx [.u, m, .o (.list es), seed, .u, .u, .f (.int n')] := by
  intro ds n hn hd js hl
  induction js generalizing ds n with
  | nil => exact ⟨n, ds, hd, by simp, rfl⟩
  | cons j js ih =>
    rw [List.length_cons] at hl
    by_cases h : 0 < n
    · obtain ⟨n', es, h1, h2, h3⟩ := ih (ds ++ [.int (n % 1009)]) (n / 1009) (Int.ediv_nonneg hn (by omega)) (fun d hm => by
          rcases List.mem_append.mp hm with hm | hm
          · exact hd d hm
          · rw [List.mem_singleton] at hm; subst hm; exact isDraw_mod (by omega) (by omega)) (by simp; omega)
      refine ⟨n', es, h1, by simp at h2 ⊢; omega, ?_⟩
      refine forL_next [.u, m, .o (.list ds), seed, .u, .f j, .f (.int n)] [.u, m, .o (.list (ds ++ [.int (n % 1009)])), seed, .u, .f j, .f (.int (n / 1009))] (by rfl) ?_ (by rfl) h3
      have hf : fits (ds.length + 1) = true := fits_ok (by omega)
      simp [h, hf, divOk]
    · obtain ⟨n', es, h1, h2, h3⟩ := ih ds n hn hd (by omega)
      refine ⟨n', es, h1, by simp at h2 ⊢; omega, ?_⟩
      refine forL_next [.u, m, .o (.list ds), seed, .u, .f j, .f (.int n)] [.u, m, .o (.list ds), seed, .u, .f j, .f (.int n)] (by rfl) ?_ (by rfl) h3
      simp [h]
theorem draws_outer : ∀ (js : List Int) (ds : List D) (seed : Int) (m c4 : Sl) (k : Nat), (∀ d ∈ ds, isDraw d) → ds.length ≤ 60 * k → k + js.length ≤ 64 → ∃ es seed', (∀ d ∈ es, isDraw d) ∧ es.length ≤ 60 * (k + js.length) ∧
    forL (aName 4) (sCons (sSet 6 (mF (eA dAbs (eCons (eVar 4) (eNil))))) (sCons (sSet 3 (mF (e2 dMod (eA dInt (eCons (e2 dAdd (e2 dAdd (e2 dMul (eVar 3) (eInt 48271)) (eVar 6)) (eInt 11)) (eNil))) (eInt 2147483647)))) (sIf (tV (e2 dGe (eVar 6) (e2 dPow (eInt 10) (eInt 18)))) (sFor (iRg1 (eInt 60)) (aName 5) (sIf (tV (e2 dGt (eVar 6) (eInt 0))) (sCons (sApp 2 (e2 dMod (eA dInt (eCons (eVar 6) (eNil))) (eInt 1009))) (sSet 6 (mF (e2 dFdiv (eVar 6) (eInt 1009))))) (sNil)) [0, 4, 5]) (sApp 2 (e2 dMod (e2 dFdiv (eA dInt (eCons (e2 dAdd (e2 dMul (eVar 3) (eInt 16807)) (eInt 5)) (eNil))) (eInt 3)) (eInt 65521)))))) [0, 4, 5, 6]
      (js.map .int) [.u, m, .o (.list ds), .f (.int seed), .u, .u, .u] = .nx [.u, m, .o (.list es), .f (.int seed'), .u, .u, .u]
  | [], ds, seed, m, c4, k, hd, hl, hk => ⟨ds, seed, hd, by simpa using hl, rfl⟩
  | j :: js, ds, seed, m, c4, k, hd, hl, hk => by
    rw [List.length_cons] at hk
    have hm1 : mulOk seed 48271 = true := mulOk_r (by decide)
    have hm2 : ∀ s : Int, mulOk s 16807 = true := fun s => mulOk_r (by decide)
    have hb : big62 60 = true := by decide
    have hp : dPow (.int 10) (.int 18) = .ok (.int 1000000000000000000) := by rfl
    have hn : 0 ≤ (if j < 0 then -j else j) := by split <;> omega
    generalize hna : (if j < 0 then -j else j) = n at hn
    by_cases h : 1000000000000000000 ≤ n
    · obtain ⟨n', es, h1, h2, h3⟩ := draws_inner (.u) m (.f (.int ((seed * 48271 + n + 11) % 2147483647))) .u .u ds n hn hd (rgD 0 60) (by rw [rgD_len]; omega)
      rw [rgD_len] at h2
      obtain ⟨es', seed', g1, g2, g3⟩ := draws_outer js es ((seed * 48271 + n + 11) % 2147483647) m c4 (k + 1) h1 (by omega) (by omega)
      refine ⟨es', seed', g1, by rw [List.length_cons]; omega, ?_⟩
      rw [List.map_cons]
      refine forL_next [.u, m, .o (.list ds), .f (.int seed), .f (.int j), .u, .u] [.u, m, .o (.list es), .f (.int ((seed * 48271 + n + 11) % 2147483647)), .u, .u, .f (.int n')] (by rfl) ?_ (by rfl) g3
      simp [hna, hm1, hp, h, hb, h3]
    · obtain ⟨es', seed', g1, g2, g3⟩ := draws_outer js (ds ++ [.int ((((seed * 48271 + n + 11) % 2147483647) * 16807 + 5) / 3 % 65521)]) ((seed * 48271 + n + 11) % 2147483647) m c4 (k + 1) (fun d hm => by
          rcases List.mem_append.mp hm with hm | hm
          · exact hd d hm
          · rw [List.mem_singleton] at hm; subst hm; exact isDraw_mod (by omega) (by omega)) (by simp; omega) (by omega)
      refine ⟨es', seed', g1, by rw [List.length_cons]; omega, ?_⟩
      rw [List.map_cons]
      refine forL_next [.u, m, .o (.list ds), .f (.int seed), .f (.int j), .u, .u] [.u, m, .o (.list (ds ++ [.int ((((seed * 48271 + n + 11) % 2147483647) * 16807 + 5) / 3 % 65521)])), .f (.int ((seed * 48271 + n + 11) % 2147483647)), .f (.int j), .u, .f (.int n)] (by rfl) ?_ (by rfl) g3
      have hf : fits (ds.length + 1) = true := fits_ok (by omega)
      simp [hna, hm1, hm2, hp, h, hb, hf, divOk]
theorem draws_fill (M : Int) (hM : 0 ≤ M) : ∀ (js : List D) (ds : List D) (seed : Int) (i : Int), (∀ (t : Nat) (d : D), js[t]? = some d → d = .int (i + t)) → (∀ d ∈ ds, isDraw d) → ds.length + js.length ≤ 10000 → ∃ es seed', (∀ d ∈ es, isDraw d) ∧ es.length ≤ 10000 ∧ (M ≤ ds.length + js.length → M ≤ es.length) ∧
    forL (aName 5) (sIf (tBor 2 (tV (e2 dLt (eA dLen (eCons (eVar 2) (eNil))) (eVar 1)))) (sCons (sSet 3 (mF (e2 dMod (eA dInt (eCons (e2 dAdd (e2 dAdd (e2 dMul (eVar 3) (eInt 69621)) (eVar 5)) (eInt 1)) (eNil))) (eInt 2147483647)))) (sApp 2 (e2 dMod (e2 dFdiv (eA dInt (eCons (eVar 3) (eNil))) (eInt 7)) (eInt 65521)))) (sNil)) [0, 4, 5, 6]
      js [.u, .f (.int M), .o (.list ds), .f (.int seed), .u, .u, .u] = .nx [.u, .f (.int M), .o (.list es), .f (.int seed'), .u, .u, .u]
  | [], ds, seed, i, _, hd, hl => ⟨ds, seed, hd, by simpa using hl, fun h => by simpa using h, rfl⟩
  | j :: js, ds, seed, i, hj, hd, hl => by
    rw [List.length_cons] at hl
    have hj0 : j = .int i := by simpa using hj 0 j rfl
    have hjs : ∀ (t : Nat) (d : D), js[t]? = some d → d = .int ((i + 1) + t) := fun t d h => by
      have := hj (t + 1) d (by simpa using h)
      rw [this]; congr 1; omega
    subst hj0
    have hm1 : mulOk seed 69621 = true := mulOk_r (by decide)
    by_cases h : (ds.length : Int) < M
    · obtain ⟨es, seed', g1, g2, g3, g4⟩ := draws_fill M hM js (ds ++ [.int ((seed * 69621 + i + 1) % 2147483647 / 7 % 65521)]) ((seed * 69621 + i + 1) % 2147483647) (i + 1) hjs (fun d hm => by
          rcases List.mem_append.mp hm with hm | hm
          · exact hd d hm
          · rw [List.mem_singleton] at hm; subst hm; exact isDraw_mod (by omega) (by omega)) (by simp; omega)
      refine ⟨es, seed', g1, g2, fun q => g3 (by simp at q ⊢; omega), ?_⟩
      refine forL_next [.u, .f (.int M), .o (.list ds), .f (.int seed), .u, .f (.int i), .u] [.u, .f (.int M), .o (.list (ds ++ [.int ((seed * 69621 + i + 1) % 2147483647 / 7 % 65521)])), .f (.int ((seed * 69621 + i + 1) % 2147483647)), .u, .f (.int i), .u] (by rfl) ?_ (by rfl) g4
      have hf : fits (ds.length + 1) = true := fits_ok (by omega)
      simp [h, hm1, hf, divOk]
    · obtain ⟨es, seed', g1, g2, g3, g4⟩ := draws_fill M hM js ds seed (i + 1) hjs hd (by omega)
      refine ⟨es, seed', g1, g2, fun q => g3 (by simp at q ⊢; omega), ?_⟩
      refine forL_next [.u, .f (.int M), .o (.list ds), .f (.int seed), .u, .f (.int i), .u] [.u, .f (.int M), .o (.list ds), .f (.int seed), .u, .f (.int i), .u] (by rfl) ?_ (by rfl) g4
      simp [h]
/-- what _law_draws gives -/
theorem law_draws (ns : List Int) (hn : ns.length ≤ 63) (M : Nat) (hM : M ≤ 1000) : ∃ ds : List D, F__law_draws ns [.int M] = .ok (.list ds) ∧ ds.length = M ∧ ∀ d ∈ ds, isDraw d := by
  have hc : cutL (ns.map PyData.int) none (some (63 : Int)) = ns.map .int := by
    rw [show (63 : Int) = ((63 : Nat) : Int) from rfl, cut_take, List.take_of_length_le (by simpa using hn)]
  obtain ⟨es, seed', g1, g2, g3⟩ := draws_outer ns [] 7 (.f (.int M)) .u 0 (fun _ h => by cases h) (by simp) (by omega)
  obtain ⟨fs, seed2, k1, k2, k3, k4⟩ := draws_fill M (by omega) (rgD 0 M) es seed' 0 (fun t d h => (rgD_get h).1) g1 (by rw [rgD_len]; omega)
  refine ⟨fs.take M, ?_, by rw [List.length_take]; have := k3 (by rw [rgD_len]; omega); omega, fun d h => k1 d (List.mem_of_mem_take h)⟩
  have hb : big62 M = true := big62_ok (by omega) (by omega)
  have hcut := cut_take fs M
  simp [F__law_draws, runS, S__law_draws, frz, hc, g3, hb, k4, hcut]
end PQ

/-! PQ.15: how denotations compute: items, equality -/
namespace PQ
open PySem PySem.Spec PyProof.Rows L2

def oR {α : Type} : Option α → R α
  | some a => .ok a
  | none => .stuck
@[simp] theorem oR_some {α : Type} (a : α) : oR (some a) = .ok a := id rfl
@[simp] theorem x_ixL (ds : List D) (i : Int) : dIx (.list ds) (.int i) = oR (atI ds i) := by
  show (match atI ds i with
    | some d => R.ok d
    | none => .stuck) = _
  cases atI ds i <;> rfl
@[simp] theorem x_ixT (ds : List D) (i : Int) : dIx (.tuple ds) (.int i) = oR (atI ds i) := by
  show (match atI ds i with
    | some d => R.ok d
    | none => .stuck) = _
  cases atI ds i <;> rfl
theorem x_ixS (z : Str) (i : Int) : dIx (.str z) (.int i) = (oR (atI z.cps.toList i) >>= fun c => guardR (fits z.length) (PyData.str ⟨#[c]⟩)) := by
  show (match atI z.cps.toList i with
    | some c => guardR (fits z.length) (PyData.str ⟨#[c]⟩)
    | none => .stuck) = _
  cases atI z.cps.toList i <;> rfl
@[simp] theorem atI_0 {α : Type} (a : α) (l : List α) : atI (a :: l) 0 = some a := atI_nat (j := 0) rfl
@[simp] theorem atI_1 {α : Type} (a b : α) (l : List α) : atI (a :: b :: l) 1 = some b := atI_nat (j := 1) rfl
@[simp] theorem atI_2 {α : Type} (a b c : α) (l : List α) : atI (a :: b :: c :: l) 2 = some c := atI_nat (j := 2) rfl
@[simp] theorem atI_3 {α : Type} (a b c d : α) (l : List α) : atI (a :: b :: c :: d :: l) 3 = some d := atI_nat (j := 3) rfl
@[simp] theorem atI_4 {α : Type} (a b c d e : α) (l : List α) : atI (a :: b :: c :: d :: e :: l) 4 = some e := atI_nat (j := 4) rfl
@[simp] theorem atI_5 {α : Type} (a b c d e f : α) (l : List α) : atI (a :: b :: c :: d :: e :: f :: l) 5 = some f := atI_nat (j := 5) rfl
@[simp] theorem x_eqS (a b : Str) : dEq (.str a) (.str b) = .ok (.bool (a == b)) := by show guardR _ _ = _; rfl
@[simp] theorem x_eqI (a b : Int) : dEq (.int a) (.int b) = .ok (.bool (decide (a = b))) := by show guardR _ _ = _; rfl
@[simp] theorem x_eqB (a b : Bool) : dEq (.bool a) (.bool b) = .ok (.bool (a == b)) := by show guardR _ _ = _; rfl
@[simp] theorem x_neS (a b : Str) : dNe (.str a) (.str b) = .ok (.bool (!(a == b))) := by show guardR _ _ = _; rfl
@[simp] theorem x_neI (a b : Int) : dNe (.int a) (.int b) = .ok (.bool (!decide (a = b))) := by show guardR _ _ = _; rfl
theorem eqOk_of {x y : D} (h1 : x.plain = true) (h2 : y.plain = true) (h3 : min x.depth y.depth ≤ 60) : eqOk x y = true := by unfold eqOk; simp [h1, h2, h3]
mutual
theorem eqv_refl : ∀ d : D, d.plain = true → PyData.eqv d d = true
  | .none, _ => rfl
  | .bool b, _ => by simp [PyData.eqv]
  | .int b, _ => by simp [PyData.eqv]
  | .str b, _ => by simp [PyData.eqv]
  | .list xs, h => by
    have h : PyData.plainAll xs = true := h
    show PyData.eqvAll xs xs = true
    exact eqvs_refl xs h
  | .tuple xs, h => by
    have h : PyData.plainAll xs = true := h
    show PyData.eqvAll xs xs = true
    exact eqvs_refl xs h
  | .dict _, h => by cases h
theorem eqvs_refl : ∀ d : List D, PyData.plainAll d = true → PyData.eqvAll d d = true
  | [], _ => rfl
  | x :: xs, h => by
    have h : (x.plain && PyData.plainAll xs) = true := h
    rw [Bool.and_eq_true] at h
    show (PyData.eqv x x && PyData.eqvAll xs xs) = true
    rw [eqv_refl x h.1, eqvs_refl xs h.2]; rfl
end
theorem dNe_self {x : D} (h1 : x.plain = true) (h2 : x.depth ≤ 60) : dNe x x = .ok (.bool false) := by
  show guardR _ _ = _
  rw [eqOk_of h1 h1 (by omega), eqv_refl x h1]; rfl
theorem dEq_self {x : D} (h1 : x.plain = true) (h2 : x.depth ≤ 60) : dEq x x = .ok (.bool true) := by
  show guardR _ _ = _
  rw [eqOk_of h1 h1 (by omega), eqv_refl x h1]; rfl
theorem plain_strs : ∀ ss : List Str, PyData.plainAll (ss.map .str) = true
  | [] => rfl
  | s :: ss => by show (true && _) = true; rw [plain_strs ss]; rfl
theorem plain_ints : ∀ ss : List Int, PyData.plainAll (ss.map .int) = true
  | [] => rfl
  | s :: ss => by show (true && _) = true; rw [plain_ints ss]; rfl
theorem big62_lit {i : Int} (h : big62 i = true) : big62 i = true := h
@[simp] theorem x_guardT {α : Type} {c : Bool} (a : α) (h : c = true) : guardR c a = .ok a := by rw [h]; rfl
@[simp] theorem thn_ite {c : Prop} [Decidable c] (a b : Out) (k : ES) : (if c then a else b).thn k = if c then a.thn k else b.thn k := by split <;> rfl
@[simp] theorem bind_ite {α β : Type} {c : Prop} [Decidable c] (a b : R α) (f : α → R β) : ((if c then a else b) >>= f) = if c then a >>= f else b >>= f := by split <;> rfl
@[simp] theorem of_ite {α : Type} {c : Prop} [Decidable c] (a b : R α) (ρ : Rho) (k : α → Out) : Out.of (if c then a else b) ρ k = if c then Out.of a ρ k else Out.of b ρ k := by split <;> rfl
@[simp] theorem res_ite {c : Prop} [Decidable c] (a b : Out) : (if c then a else b).res = if c then a.res else b.res := by split <;> rfl
theorem whN_0 {T : ET} {B : ES} {ks : List Nat} {n : Nat} {ρ : Rho} (h : T ρ = .ok false) : whN T B ks (n + 1) ρ = .nx ρ := by rw [whN, h]; rfl
theorem whN_1 {T : ET} {B : ES} {ks : List Nat} {n : Nat} {ρ ρ2 ρ3 : Rho} {o : Out} (h : T ρ = .ok true) (h2 : B ρ = .nx ρ2) (hw : wipeR ρ2 ks = ρ3) (h3 : whN T B ks n ρ3 = o) : whN T B ks (n + 1) ρ = o := by
  rw [whN, h]
  show (match B ρ with
    | .nx ρ2 => whN T B ks n (wipeR ρ2 ks)
    | .ct ρ2 => whN T B ks n (wipeR ρ2 ks)
    | .bk ρ2 => .nx (wipeR ρ2 ks)
    | o => o) = o
  rw [h2]
  show whN T B ks n (wipeR ρ2 ks) = o
  rw [hw, h3]
theorem compR_map {α : Type} {step : D → R (Option D)} (φ : α → D) (P : α → Bool) (g : α → D) : ∀ (xs : List α), (∀ x ∈ xs, step (φ x) = .ok (if P x = true then some (g x) else none)) → compR step (xs.map φ) = .ok ((xs.filter P).map g)
  | [], _ => rfl
  | x :: xs, h => by
    rw [List.map_cons, compR, h x List.mem_cons_self, R.ok_bind, compR_map φ P g xs fun y hy => h y (List.mem_cons_of_mem _ hy), R.ok_bind]
    cases e : P x <;> simp [List.filter_cons, e]
theorem compR_all {α : Type} {step : D → R (Option D)} (φ : α → D) (g : α → D) (xs : List α) (h : ∀ x ∈ xs, step (φ x) = .ok (some (g x))) : compR step (xs.map φ) = .ok (xs.map g) := by
  have := compR_map (step := step) φ (fun _ => true) g xs (fun x hx => by rw [h x hx]; rfl)
  rw [this]
  congr 2
  simp
theorem forL_const {A : EG} {B : ES} {ks : List Nat} {ρ : Rho} : ∀ ds : List D, (∀ d ∈ ds, ∃ ρ1 ρ2, A d ρ = .ok ρ1 ∧ B ρ1 = .nx ρ2 ∧ wipeR ρ2 ks = ρ) → forL A B ks ds ρ = .nx ρ
  | [], _ => rfl
  | d :: ds, h => by
    obtain ⟨ρ1, ρ2, h1, h2, h3⟩ := h d List.mem_cons_self
    exact forL_next ρ1 ρ2 h1 h2 h3 (forL_const ds fun e he => h e (List.mem_cons_of_mem _ he))
theorem rgD_nat (m : Nat) : rgD 0 m = (List.range m).map fun (k : Nat) => PyData.int k := by
  unfold rgD
  rw [show ((m : Int) - 0).toNat = m by omega]
  congr 1
  funext k
  congr 1
  omega
end PQ

/-! PQ.16: t[i::k] of tuples -/
namespace PQ
open PySem PySem.Spec PyProof.Rows L2

/-- t[i::k] -/
def strideN (n i k : Nat) : Nat := if i < n then (n - i - 1) / k + 1 else 0
def strideL {α : Type} (xs : List α) (i k : Nat) : List α := (List.range (strideN xs.length i k)).filterMap fun m => xs[i + m * k]?
section
variable {prog : Program} {w : World} {A : Around} {E : Value → Shared → Prop} {s : Shared}
theorem places_stride {n i k : Nat} (hk : 0 < k) : Builtin.Slice.slicePlaces (i : Int) (n : Int) (k : Int) = strideN n i k := by
  unfold Builtin.Slice.slicePlaces strideN
  have h1 : (k : Int) > 0 := by omega
  simp only [h1, if_true]
  by_cases h : i < n
  · have h2 : (i : Int) < n := by omega
    simp only [h, h2, if_true]
    have e : (n : Int) - i - 1 = ((n - i - 1 : Nat) : Int) := by omega
    rw [e, ← Int.natCast_ediv]
    generalize (n - i - 1) / k = z
    omega
  · have h2 : ¬ (i : Int) < n := by omega
    simp only [h, h2, if_false]
    rfl
theorem adjust_stride (lo : Option Int) {i k n : Nat} (hk : 0 < k) (hi : lo = some (i : Int) ∨ (lo = none ∧ i = 0)) : Builtin.Slice.sliceAdjust lo none (k : Int) (n : Int) = (((min i n : Nat) : Int), (n : Int)) := by
  have h1 : ¬ ((k : Int) < 0) := by omega
  unfold Builtin.Slice.sliceAdjust
  simp only [h1, if_false]
  rcases hi with rfl | ⟨rfl, rfl⟩
  · have : ¬ (i : Int) < 0 := by omega
    simp only [this, if_false]
    refine Prod.ext ?_ rfl
    show min (i : Int) n = _
    omega
  · refine Prod.ext ?_ rfl
    show (0 : Int) = _
    omega
theorem stride_min {α : Type} (xs : List α) (i k : Nat) : strideL xs (min i xs.length) k = strideL xs i k := by
  unfold strideL strideN
  by_cases h : i < xs.length
  · rw [Nat.min_eq_left (by omega)]
  · rw [Nat.min_eq_right (by omega), if_neg (by omega), if_neg h]; rfl
theorem getItem_tuple_stride {t sl : Addr} {items : Array Value} {vl vs : Value} {lo : Option Int} {i k : Nat} {Q : Value → Shared → Prop} (ht : IsTup s.heap t items) (hs : s.heap.IsSliceOf sl vl .none vs) (pl : IsPart vl lo) (ps : IsPart vs (some (k : Int))) (hk : 1 < k)
    (hi : lo = some (i : Int) ∨ (lo = none ∧ i = 0))
    (h : Q (.ref s.heap.objs.size) { s with heap := s.heap.push { cls := .type "tuple", data := .seq (strideL items.toList i k).toArray } })
    (hsz : items.size ≤ sizeLine) : wpAny (model prog w) A (getItem (.ref t) (.ref sl)) Q E s := by
  have hle : strideN items.size i k ≤ items.size := by
    unfold strideN
    split
    · have := Nat.div_le_self (items.size - i - 1) k
      omega
    · omega
  have htake : sizeOk (.seq (strideL items.toList i k).toArray) := by
    show (strideL items.toList i k).toArray.size ≤ sizeLine
    rw [List.size_toArray]
    unfold strideL
    have := List.length_filterMap_le (fun m => items.toList[i + m * k]?) (List.range (strideN items.toList.length i k))
    have el : items.toList.length = items.size := by simp
    rw [List.length_range, el] at this
    rw [el]
    omega
  obtain ⟨os, hos, hcs, hds⟩ := id hs
  have hTs : s.TypeIs (.ref sl) "slice" := ⟨os, hos, hcs⟩
  unfold getItem
  try with_reducible refine wpAny_holding ?_
  first | refine wpAny_bind (wpAny_pure ?_) | skip
  refine wpAny_bind (wpAny_sequenceKey ht.typeIs (by decide) ?_)
  refine wpAny_bind (wpAny_callSpecial?_slot (name := Str.ofString "__getitem__") ht.typeIs PyProof.Rows.slot_tuple_getitem
    (wpAny_call_entry PyProof.Rows.slot_tuple_getitem ht.typeIs entry_tuple_getitem ?_ (args_tuple_getitem _ _)))
  show wpAny _ _ (Builtin.Tuple.tupleItemsOf (.ref t) >>= _) _ _ s
  refine wpAny_bind (tupleItemsOf_ ht ?_)
  refine wpAny_bind (wpAny_typeOf hTs ?_)
  rw [if_pos (by decide)]
  refine wpAny_bind ?_
  unfold Builtin.Slice.sliceApplied Builtin.Slice.sliceFields
  refine wpAny_bind (wpAny_bind (wpAny_field hos hds (x := vl) rfl (wpAny_bind (wpAny_field hos hds (x := .none) rfl (wpAny_bind (wpAny_field hos hds (x := vs) rfl (wpAny_pure ?_)))))))
  refine wpAny_bind (HT.slicePart_ ps ?_)
  have hk0 : ¬ (((k : Int) == 0) = true) := by
    rw [beq_iff_eq]; omega
  show wpAny _ _ (if ((k : Int) == 0) = true then _ else _) _ _ s
  rw [if_neg hk0]
  refine wpAny_bind (HT.slicePart_ pl (wpAny_bind (HT.slicePart_ .none (wpAny_bind (wpAny_pure ?_)))))
  show wpAny _ _ (match Builtin.Slice.sliceAdjust lo none (k : Int) ((items.size : Nat) : Int) with | (lo, hi) => pure (lo, (k : Int), Builtin.Slice.slicePlaces lo hi (k : Int))) _ _ s
  rw [adjust_stride lo (by omega) hi]
  show wpAny _ _ (pure (((min i items.size : Nat) : Int), (k : Int), Builtin.Slice.slicePlaces ((min i items.size : Nat) : Int) (items.size : Int) (k : Int))) _ _ s
  rw [places_stride (by omega)]
  refine wpAny_pure ?_
  have hno : ¬ ((((min i items.size : Nat) : Int) == 0 && (k : Int) == 1 && strideN items.size (min i items.size) k == items.size) = true) := by
    intro q
    rw [Bool.and_eq_true, Bool.and_eq_true] at q
    have q1 : (k : Int) = 1 := eq_of_beq q.1.2
    omega
  show wpAny _ _ (if (((min i items.size : Nat) : Int) == 0 && (k : Int) == 1 && strideN items.size (min i items.size) k == items.size) = true then _ else _) _ _ s
  rw [if_neg hno]
  have e : ((List.range (strideN items.size (min i items.size) k)).filterMap fun (m : Nat) => items[(((min i items.size : Nat) : Int) + (m : Int) * (k : Int)).toNat]?).toArray = (strideL items.toList i k).toArray := by
    congr 1
    rw [← stride_min]
    unfold strideL
    rw [Array.length_toList]
    congr 1
    funext m
    have : (((min i items.size : Nat) : Int) + (m : Int) * (k : Int)).toNat = min i items.size + m * k := by
      rw [← Int.natCast_mul]; omega
    rw [this, Array.getElem?_toList]
  rw [e]
  first
    | exact wpAny_bind (m := Builtin.Tuple.tupleExact _) (wpAny_newObj_type (wpAny_pure ⟨_, rfl, wpAny_pure h⟩) htake)
    | exact wpAny_bind (m := Builtin.Tuple.tupleExact _) (wpAny_newObj_type (wpAny_bind (wpAny_pure (wpAny_pure ⟨_, rfl, wpAny_pure h⟩))) htake)
    | exact wpAny_bind (wpAny_bind (m := Builtin.Tuple.tupleExact _) (wpAny_newObj_type (wpAny_pure (wpAny_pure ⟨_, rfl, wpAny_pure h⟩)) htake))
    | exact wpAny_bind (wpAny_bind (m := Builtin.Tuple.tupleExact _) (wpAny_newObj_type (wpAny_pure ⟨_, rfl, wpAny_pure h⟩) htake))
end
section
variable {X : Cx} {W : WX} {a b c e : Expr} {es rest : List Expr} {pos p : Pos} {F G I : EV} {T U : ET} {Fs : EA}
def asT : D → R (List D)
  | .tuple ds => .ok ds
  | _ => .stuck
def dStr2 (k : Nat) (ds : List D) : Option Int → R D
  | none => .ok (.tuple (strideL ds 0 k))
  | some i => if 0 ≤ i then .ok (.tuple (strideL ds i.toNat k)) else .stuck
theorem rd_tup {w : World} {K : PySem.W.Frag} {Z : Hp} {v : V} {ds : List D} (h : RD w K Z v (.tuple ds)) : ∃ a xs, v = .ref a ∧ SqT K Z a xs ∧ RDs w K Z xs ds := by
  cases h with
  | tup h r => exact ⟨_, _, rfl, h, r⟩
def eStride (F : EV) (k : Nat) (P : EP') : EV := fun ρ => F ρ >>= fun x => asT x >>= fun ds => P ρ >>= fun lo => dStr2 k ds lo
theorem RDs.pick {w : World} {K : PySem.W.Frag} {Z : Hp} {vs : List V} {ds : List D} (r : RDs w K Z vs ds) (f : Nat → Nat) : ∀ is : List Nat, RDs w K Z (is.filterMap fun m => vs[f m]?) (is.filterMap fun m => ds[f m]?)
  | [] => .nil
  | i :: is => by
    rw [List.filterMap_cons, List.filterMap_cons]
    cases e : ds[f i]? with
    | none =>
      have : vs[f i]? = none := by
        rw [List.getElem?_eq_none_iff] at e ⊢
        rw [r.length]; exact e
      rw [this]
      exact RDs.pick r f is
    | some d =>
      obtain ⟨v, hv, rv⟩ := r.get e
      rw [hv]
      exact .cons rv (RDs.pick r f is)
theorem vals_pick {xs : List V} {us : List Value} (r : Vals xs us) (f : Nat → Nat) : ∀ is : List Nat, Vals (is.filterMap fun m => xs[f m]?) (is.filterMap fun m => us[f m]?)
  | [] => .nil
  | i :: is => by
    rw [List.filterMap_cons, List.filterMap_cons]
    cases e : xs[f i]? with
    | none =>
      have : us[f i]? = none := Vals.none_of r e
      rw [this]
      exact vals_pick r f is
    | some d =>
      obtain ⟨v, hv, rv⟩ := Vals.get r e
      rw [hv]
      exact .cons rv (vals_pick r f is)
theorem ev_stride {k : Nat} {j} {lo : Option Expr} {P : EP'} {p2 p3 : Pos} (ha : Ev X W a F) (hl : Ep X W lo P) (hk : 1 < k := by decide) : Ev X W (.Subscript a (.Slice lo none (some (.Constant (.int (k : Int)) j p3)) p2) pos) (eStride F k P) := by
  refine ⟨fun {Z0 H0 Z H σ ρ Q} r q pins s I => ?_⟩
  have g : PEat X a σ H (fun x H1 => ∃ xs b, x = V.ref b ∧ SqT X.K H1 b xs ∧ (∀ (pins : List (Addr × Obj)) (s : Shared), Inv X pins σ H1 s → wpAny (model X.prog X.w) X.A (evalPart lo X.env) (fun u s' => ∃ o H', Inv X pins σ H' s' ∧ IsPart u o ∧ ∃ i : Nat, (o = some (i : Int) ∨ (o = none ∧ i = 0)) ∧ SqT X.K H' b xs ∧ ∀ p, H' p = none → Q (.ref p) (upd H' p (.tup (strideL xs i k)))) X.xe s)) := by
    refine ha.go r (q.bind.mono fun d hd v Z1 H1 x1 r1 => ?_)
    have hd := hd.bind
    cases d with
    | tuple ds =>
      obtain ⟨b, xs, rfl, h1, r1⟩ := rd_tup r1
      refine ⟨xs, b, rfl, SqT.mono x1.zh h1, fun pins s I => ?_⟩
      refine hl.go (r.step x1) (Q := fun o H' => ∃ i : Nat, (o = some (i : Int) ∨ (o = none ∧ i = 0)) ∧ SqT X.K H' b xs ∧ ∀ p, H' p = none → Q (.ref p) (upd H' p (.tup (strideL xs i k)))) ((hd.bind.step x1).mono fun o ho Z2 H2 x2 => ?_) pins s I
      have fin : ∀ i : Nat, Post X W Z H σ (.ok (.tuple (strideL ds i k)) : R D) (QV X Z H Q) → ∀ p, H2 p = none → Q (.ref p) (upd H2 p (.tup (strideL xs i k))) := by
        intro i q p hp
        refine q _ _ _ ((x1.trans x2).trans (Ext.new x2.zh hp)) (.tup (.inl (.inl upd_same)) ?_)
        unfold strideL
        rw [r1.length]
        exact ((r1.mono x2.zz).mono (Ext.new (o := .tup _) x2.zh hp).zz).pick (fun m => i + m * k) _
      cases o with
      | none => exact ⟨0, .inr ⟨rfl, rfl⟩, SqT.mono (x2.hh) (SqT.mono x1.zh h1), fin 0 ho⟩
      | some i =>
        have ho : Post X W Z H σ (if 0 ≤ i then .ok (.tuple (strideL ds i.toNat k)) else .stuck : R D) (QV X Z H Q) := ho
        split at ho
        · exact ⟨i.toNat, .inl (by congr 1; omega), SqT.mono (x2.hh) (SqT.mono x1.zh h1), fin _ ho⟩
        · exact ho.elim
    | _ => exact hd.elim
  refine Subscript_ (thn (g pins s I) fun v s1 ⟨x, H1, I1, r1, xs, b, ex, hx, q1⟩ => ?_)
  subst ex
  cases r1
  refine wpAny_Slice (thn (q1 pins s1 I1) fun vl s2 ⟨o, H2, I2, pl, i, hi, hx2, q2⟩ => ?_)
  refine thn (po_none.run pins s2 σ H2 (fun o H3 => o = none ∧ H3 = H2) I2 ⟨rfl, rfl⟩) fun vu s3 ⟨u, H3, I3, pu, eu, e3⟩ => ?_
  subst eu e3
  cases pu
  refine thn ((show PO X (some (.Constant (.int (k : Int)) j p3)) _ from po_some pe_int).run pins s3 σ H3 (fun o H4 => o = some (k : Int) ∧ H4 = H3) I3 ⟨(k : Int), rfl, rfl, rfl⟩) fun vs s4 ⟨o, H4, I4, ps, eo, e4⟩ => ?_
  subst eo e4
  have I5 : Inv X pins σ H4 { s4 with heap := s4.heap.push { cls := .type "slice", data := .fields #[vl, .none, vs] } } := I4.kept (t' := s4.toks) fun b ob q => Heap.get?_push_of_some _ q
  obtain ⟨its, r, ht, hz⟩ := I5.tuple hx2
  have hlen := r.length
  show wpAny (model X.prog X.w) X.A (subscriptTail a (.Slice lo none (some (.Constant (.int (k : Int)) j p3)) p2) (.ref b) (.ref s4.heap.objs.size)) (EP X pins σ Q) X.xe { s4 with heap := s4.heap.push { cls := .type "slice", data := .fields #[vl, .none, vs] } }
  refine tail_any (ops := [.ref b, .ref s4.heap.objs.size]) ht.typeIs (PyProof.Rows.slot_tuple_getitem.lookup) ?_ (by with_unfolding_all rfl)
  refine getItem_tuple_stride ht (Heap.IsSliceOf.new _ vl .none vs) pl ps hk hi ?_ (by rw [List.size_toArray]; omega)
  refine ⟨.ref _, _, I5.laid (t' := s4.toks) (o := .tup (strideL xs i k)) (fun b ob q => Heap.get?_push_of_some _ q) (Nat.le_refl _) ?_, rfl, q2 _ (I5.hok.fresh (Nat.le_refl _))⟩
  refine ⟨?_, strideL its i k, ?_, ?_⟩
  · unfold strideL
    have := List.length_filterMap_le (fun m => xs[i + m * k]?) (List.range (strideN xs.length i k))
    rw [List.length_range] at this
    have h2 : strideN xs.length i k ≤ xs.length := by
      unfold strideN
      split
      · have := Nat.div_le_self (xs.length - i - 1) k
        omega
      · omega
    omega
  · unfold strideL
    rw [hlen]
    exact vals_pick r (fun m => i + m * k) _
  · exact IsTup.new _ _
end
end PQ

/-! PQ.17: three names at once; an if as a test -/
namespace PQ
open PySem PySem.Spec PyProof.Rows L2
section
variable {X : Cx} {W : WX} {a b c e : Expr} {es rest : List Expr} {pos p : Pos} {F G I : EV} {T U : ET} {Fs : EA}
@[simp] theorem x_asT (ds : List D) : asT (.tuple ds) = .ok ds := id rfl
@[simp] theorem x_eStride (F : EV) (k : Nat) (P : EP') (ρ : Rho) : eStride F k P ρ = (F ρ >>= fun x => asT x >>= fun ds => P ρ >>= fun lo => dStr2 k ds lo) := id rfl
@[simp] theorem x_dStr2n (k : Nat) (ds : List D) : dStr2 k ds none = .ok (.tuple (strideL ds 0 k)) := id rfl
@[simp] theorem x_dStr2s (k : Nat) (ds : List D) (i : Int) : dStr2 k ds (some i) = if 0 ≤ i then .ok (.tuple (strideL ds i.toNat k)) else .stuck := id rfl
/-- every other item -/
def evens {α : Type} : List α → List α
  | [] => []
  | [a] => [a]
  | a :: _ :: r => a :: evens r
def odds {α : Type} (l : List α) : List α := evens l.tail
theorem evens_len {α : Type} : ∀ l : List α, (evens l).length = (l.length + 1) / 2
  | [] => by simp [evens]
  | [_] => by simp [evens]
  | a :: b :: r => by
    rw [evens, List.length_cons, evens_len r, List.length_cons, List.length_cons]
    omega
theorem odds_len {α : Type} (l : List α) : (odds l).length = l.length / 2 := by
  unfold odds
  rw [evens_len, List.length_tail]
  omega
theorem evens_get {α : Type} : ∀ (l : List α) (i : Nat), (evens l)[i]? = l[2 * i]?
  | [], i => by simp [evens]
  | [a], 0 => rfl
  | [a], i + 1 => by simp [evens]
  | a :: b :: r, 0 => rfl
  | a :: b :: r, i + 1 => by
    rw [evens, List.getElem?_cons_succ, evens_get r i, show 2 * (i + 1) = 2 * i + 1 + 1 by omega, List.getElem?_cons_succ, List.getElem?_cons_succ]
theorem odds_get {α : Type} (l : List α) (i : Nat) : (odds l)[i]? = l[2 * i + 1]? := by
  unfold odds
  rw [evens_get, List.getElem?_tail]
theorem filterMap_len {α : Type} (f : Nat → Option α) : ∀ n : Nat, (∀ i, i < n → (f i).isSome = true) → ((List.range n).filterMap f).length = n := by
  intro n h
  induction n with
  | zero => rfl
  | succ n ih =>
    rw [List.range_succ, List.filterMap_append, List.length_append, ih fun m hm => h m (by omega)]
    have := h n (by omega)
    cases q : f n with
    | none => rw [q] at this; cases this
    | some x => simp [q]
theorem filterMap_get {α : Type} (f : Nat → Option α) : ∀ n : Nat, (∀ i, i < n → (f i).isSome = true) → ∀ j, j < n → ((List.range n).filterMap f)[j]? = f j := by
  intro n
  induction n with
  | zero => intro _ j h; omega
  | succ n ih =>
    intro h j hj
    have hl : ((List.range n).filterMap f).length = n := filterMap_len f n fun i hi => h i (by omega)
    rw [List.range_succ, List.filterMap_append]
    by_cases e : j < n
    · rw [List.getElem?_append_left (by omega)]
      exact ih (fun i hi => h i (by omega)) j e
    · have : j = n := by omega
      subst this
      rw [List.getElem?_append_right (by omega), hl]
      have := h j (by omega)
      cases q : f j with
      | none => rw [q] at this; cases this
      | some x => simp [q]
theorem stride_len {α : Type} (l : List α) (i : Nat) : (strideL l i 2).length = strideN l.length i 2 := by
  unfold strideL
  have h : ∀ m, m < strideN l.length i 2 → (l[i + m * 2]?).isSome = true := by
    intro m hm
    unfold strideN at hm
    split at hm
    · rw [List.getElem?_eq_getElem (by omega)]; rfl
    · omega
  exact filterMap_len _ _ h
theorem stride_get {α : Type} (l : List α) (i j : Nat) : (strideL l i 2)[j]? = l[i + 2 * j]? := by
  by_cases hj : j < strideN l.length i 2
  · unfold strideL
    rw [filterMap_get _ _ (fun m hm => ?_) j hj, Nat.mul_comm]
    unfold strideN at hm
    split at hm
    · rw [List.getElem?_eq_getElem (by omega)]; rfl
    · omega
  · rw [List.getElem?_eq_none (by rw [stride_len]; omega)]
    unfold strideN at hj
    symm
    rw [List.getElem?_eq_none_iff]
    split at hj <;> omega
theorem stride0 {α : Type} (l : List α) : strideL l 0 2 = evens l := by
  apply List.ext_getElem?
  intro j
  rw [stride_get, evens_get, Nat.zero_add]
theorem stride1 {α : Type} (l : List α) : strideL l 1 2 = odds l := by
  apply List.ext_getElem?
  intro j
  rw [stride_get, odds_get, Nat.add_comm]
end
end PQ

/-! PQ.18: sorted(x) of a list or a tuple -/
namespace PQ
open PySem PySem.Spec PyProof.Rows L2
open PySem.W (alike alikeAll dataLt rcLt_alike AllAlike Sortable SortsAt EachIs copyHeap sortingHeap dataLe dataKind sortVals)

section
variable {prog : Program} {w : World} {A : Around} {E : Value → Shared → Prop} {s : Shared}
/-- what collect(v) leaves: the items vs, in a list of its own behind the heap -/
def Collects (prog : Program) (w : World) (s : Shared) (v : Value) (vs : List Value) : Prop := ∀ (A : Around) (E : Value → Shared → Prop) (Q : List Value → Shared → Prop),
  Q vs { s with heap := (s.heap.push (seqObj "list" #[] 0)).update s.heap.objs.size (Obj.mapSeq (· ++ vs.toArray)) } → wpAny (model prog w) A (collect v) Q E s
theorem collects_list {l : Addr} {vs : List Value} (hl : s.heap.IsList l vs.toArray) (hz : vs.length ≤ sizeLine) : Collects prog w s (.ref l) vs := fun _ _ _ q => collect_list hl q hz
theorem collects_tup {l : Addr} {vs : List Value} (hl : IsTup s.heap l vs.toArray) (hz : vs.length ≤ sizeLine) : Collects prog w s (.ref l) vs := by
  intro A E Q q
  obtain ⟨o, ho, hc, n, hd⟩ := id hl
  unfold collect
  refine wpAny_bind (wpAny_runValue (codeAny_builtin entry_proto_collect' ?_))
  show wpAny _ _ (do again (.builtin "list.__iadd__" ⟨[← newList [], .ref l], []⟩)) _ _ s
  refine wpAny_bind (wpAny_newList (wpAny_pure ⟨Code.quiet_builtin _ (by decide +kernel), codeAny_builtin entry_list_iadd' ?_⟩))
  show wpAny _ _ (Builtin.List.listExtendWith (.ref s.heap.objs.size) (.ref l) (.ref s.heap.objs.size)) _ _ { s with heap := s.heap.push (seqObj "list" #[] 0) }
  unfold Builtin.List.listExtendWith
  have ho2 : (s.heap.push (seqObj "list" #[] 0)).get? l = some o := Heap.get?_push_of_some _ ho
  refine wpAny_bind (wpAny_typeOf (T := "tuple") ⟨o, ho2, hc⟩ ?_)
  have ht : (Value.type "tuple" == Value.type "tuple") = true := by rfl
  rw [if_pos (by rw [ht]; simp)]
  refine wpAny_bind (listItems_at ho2 hd ?_)
  refine wpAny_bind (listItems_at (xs := #[]) (n := 0) (Heap.get?_push_size _ rfl) rfl ?_)
  rw [if_neg (by simp)]
  refine wpAny_bind (listUpdate_at (xs := #[]) (n := 0) (Heap.get?_push_size _ rfl) rfl ?_ (Nat.zero_le _) (by show (#[] ++ vs.toArray).size ≤ sizeLine + 1; simp only [Array.size_append, List.size_toArray, List.length_nil]; omega))
  refine wpAny_pure ?_
  show wpAny (model prog w) A (do
      let o ← load s.heap.objs.size
      match o.data with
      | .seq xs _ => pure xs.toList
      | _ => unsupported "internal:collect") Q E { s with heap := (s.heap.push (seqObj "list" #[] 0)).update s.heap.objs.size (Obj.mapSeq (· ++ vs.toArray)) }
  refine wpAny_bind (wpAny_load (get?_update_seq (Heap.get?_push_size _ rfl) _) ?_)
  show wpAny _ _ (pure ((#[] : Array Value) ++ vs.toArray).toList) Q E _
  rw [show ((#[] : Array Value) ++ vs.toArray).toList = vs by simp]
  exact wpAny_pure q
theorem sorted_from {v : Value} {vs : List Value} {κ : KeyKind} {Q : Value → Shared → Prop} (hcol : Collects prog w s v vs) (S : SortsAt prog w A.in1.in1 { s with heap := sortingHeap (copyHeap s.heap vs) (s.heap.objs.size + 1) vs } κ vs) (hL : vs.length ≤ sizeLine)
    (h : Q (.ref (s.heap.objs.size + 1)) { s with heap := sortedAll s.heap vs (sortVals κ false vs vs).toArray }) : wpAny (model prog w) A (call (.builtin "sorted") [v]) Q E s := by
  refine PySem.Calls.call_function_entry kind_sorted plain_sorted entry_sorted (args_sorted1 _) ?_
  unfold Builtin.«sorted»
  refine wpAny_bind (m := checkCount "sorted" 1 1 _) (wpAny_pure ?_)
  refine wpAny_bind (hcol _ _ _ ?_)
  refine wpAny_bind (wpAny_newList ?_ hL)
  have hsz : ((s.heap.push (seqObj "list" #[] 0)).update s.heap.objs.size (Obj.mapSeq (· ++ vs.toArray))).objs.size = s.heap.objs.size + 1 := by
    rw [Heap.size_update, size_push']
  show wpAny _ _ _ _ _ { s with heap := copyHeap s.heap vs }
  rw [hsz]
  refine wpAny_bind (wpAny_holding (wpAny_call_entry_kw slot_list_sort ⟨_, PySem.W.copyHeap_at s.heap vs, rfl⟩ entry_list_sort ?body (args_list_sort _)))
  case body =>
    show wpAny (model prog w) A.in1.in1 (Builtin.«list.sort» ⟨[.ref (s.heap.objs.size + 1)], []⟩) _ _ _
    exact PySem.W.list_sort_vals (s := { s with heap := copyHeap s.heap vs }) (PySem.W.copyHeap_at s.heap vs) S hL ⟨_, rfl, wpAny_pure ⟨_, rfl, h⟩⟩
/-- at most one item: nothing is compared -/
theorem SortsAt.one {vs : List Value} {ds : List D} (e : EachIs (fun v d => ∃ as, Reads s.heap v d as) vs ds) (hal : AllAlike ds) (h1 : ds.length ≤ 1) (hn : ∀ d ∈ ds, d ≠ .none) (hu : ∀ d, d ∈ ds → A.units + d.depth < cLine) : SortsAt prog w A s (dataKind s.heap ds) vs := by
  refine ⟨fun v hv => ?_, ⟨general', ?_, fun h2 => absurd h2 (by rw [e.length]; omega)⟩⟩
  · obtain ⟨d, hd, as, r⟩ := e.left v hv
    exact ⟨_, PySem.W.dataKind_some hal hd r⟩
  · intro E x y a b Q ha hb hq
    obtain ⟨d, as, hd, ra, rfl⟩ := PySem.W.dataKind_inv ha
    obtain ⟨d', as', hd', rb, rfl⟩ := PySem.W.dataKind_inv hb
    have hdd := hal d hd d' hd'
    show wpAny (model prog w) A (oneLt' false x y) Q E s
    exact PySem.W.oneLt_alike (fun z => absurd z Bool.false_ne_true) ra rb hdd (hn d hd) (Nat.lt_of_le_of_lt (Nat.add_le_add_left (Nat.min_le_left _ _) _) (hu d hd)) hq
theorem SortsAt.keepU {vs : List Value} {ds : List D} (e : EachIs (fun v d => ∃ as, Reads s.heap v d as) vs ds) (hal : AllAlike ds) (hk : Sortable ds ∨ (ds.length ≤ 1 ∧ ∀ d ∈ ds, d ≠ .none)) (hu : ∀ d, d ∈ ds → A.units + d.depth < cLine) : SortsAt prog w A s (dataKind s.heap ds) vs := by
  rcases hk with hk | ⟨h1, h2⟩
  · exact PySem.W.SortsAt.data e hal hk hu
  · exact SortsAt.one e hal h1 h2 hu
/-- sorted(v), v's items read as ds -/
theorem sorted_ds {v : Value} {vs : List Value} {ds : List D} {R : Value → D → Prop} {Q : Value → Shared → Prop} (hcol : Collects prog w s v vs) (e : EachIs R vs ds) (er : EachIs (fun v d => ∃ as, Reads s.heap v d as) vs ds) (hal : AllAlike ds) (hk : Sortable ds ∨ (ds.length ≤ 1 ∧ ∀ d ∈ ds, d ≠ .none)) (hL : ds.length ≤ sizeLine)
    (hu : ∀ d, d ∈ ds → A.units + 2 + d.depth < cLine) (h : ∀ out, out.length = ds.length → EachIs R out (ds.mergeSort (dataLe false id)) → Q (.ref (s.heap.objs.size + 1)) { s with heap := sortedAll s.heap vs out.toArray }) :
    wpAny (model prog w) A (call (.builtin "sorted") [v]) Q E s := by
  have er2 : EachIs (fun v d => ∃ as, Reads (sortingHeap (copyHeap s.heap vs) (s.heap.objs.size + 1) vs) v d as) vs ds := er.mono fun _ _ ⟨as, r⟩ => ⟨as, Reads.keeps (fun _ _ => PySem.W.sorting_copy_old) r⟩
  refine sorted_from hcol (SortsAt.keepU (s := { s with heap := sortingHeap (copyHeap s.heap vs) (s.heap.objs.size + 1) vs }) er2 hal hk (fun d hd => hu d hd)) (by rw [e.length]; exact hL) ?_
  have hm : ds.map id = ds := List.map_id ds
  have out := PySem.W.sortVals_data (h' := sortingHeap (copyHeap s.heap vs) (s.heap.objs.size + 1) vs) (enc := id) false e er2 (by rw [hm]; exact hal)
  rw [hm] at out
  exact h _ (by rw [PySem.W.sortVals_length false rfl]; exact e.length) out
end
/-! ### the rule -/
def allAlikeB (ds : List D) : Bool := ds.all fun d => ds.all fun e => alike d e
def tupNE : D → Bool
  | .tuple (_ :: _) => true
  | _ => false
def notTN : D → Bool
  | .none => false
  | .tuple _ => false
  | _ => true
def sortOk (ds : List D) : Bool := fits ds.length && PyData.plainAll ds && allAlikeB ds && (ds.all tupNE || ds.all notTN || (decide (ds.length ≤ 1) && ds.all fun d => !isNone d)) && decide (PyData.depthAll ds ≤ 60)
def sortL (ds : List D) : List D := ds.mergeSort (dataLe false id)
def dSorted : List D → R D
  | [.list ds] => guardR (sortOk ds) (.list (sortL ds))
  | [.tuple ds] => guardR (sortOk ds) (.list (sortL ds))
  | _ => .stuck
theorem cl_sorted (x : List D) : (dSorted x).clean := by unfold dSorted; split <;> first | trivial | exact clean_guard _ _
theorem depth_mem : ∀ {ds : List D} {d : D}, d ∈ ds → d.depth ≤ PyData.depthAll ds
  | e :: ds, d, h => by
    show d.depth ≤ max e.depth (PyData.depthAll ds)
    rcases List.mem_cons.mp h with rfl | h
    · omega
    · have := depth_mem h; omega
theorem plain_noDicts (ds : List D) (h : PyData.plainAll ds = true) : noDicts ds = true := plains_noDict ds h
/-- the values behind data -/
theorem each_rd {w : World} {K : PySem.W.Frag} {Z : Hp} : ∀ {xs : List V} {us : List Value} {ds : List D}, Vals xs us → RDs w K Z xs ds → EachIs (fun u d => ∃ x, RelV x u ∧ RD w K Z x d) us ds
  | _, _, _, .nil, .nil => .nil
  | _, _, _, .cons r rr, .cons h t => .cons ⟨_, r, h⟩ (each_rd rr t)
theorem rd_each {w : World} {K : PySem.W.Frag} {Z : Hp} : ∀ {us : List Value} {ds : List D}, EachIs (fun u d => ∃ x, RelV x u ∧ RD w K Z x d) us ds → ∃ xs, Vals xs us ∧ RDs w K Z xs ds
  | _, _, .nil => ⟨[], .nil, .nil⟩
  | _, _, .cons ⟨x, r, h⟩ t => by
    obtain ⟨xs, r2, h2⟩ := rd_each t
    exact ⟨x :: xs, .cons r r2, .cons h h2⟩
section
variable {X : Cx} {W : WX} {a b c e : Expr} {es rest : List Expr} {pos p : Pos} {F G I : EV} {T U : ET} {Fs : EA}
theorem each_reads {pins : List (Addr × Obj)} {σ : St} {H : Hp} {s : Shared} (I : Inv X pins σ H s) : ∀ {xs : List V} {us : List Value} {ds : List D}, Vals xs us → DpAll X.K H xs ds → EachIs (fun v d => ∃ as, Reads s.heap v d as) us ds
  | _, _, _, .nil, .nil => .nil
  | _, _, _, .cons r rr, .cons h t => .cons (Dp.reads I _ _ _ h r) (each_reads I rr t)
theorem sortOk_of {ds : List D} (h : sortOk ds = true) : ds.length ≤ sizeLine ∧ PyData.plainAll ds = true ∧ AllAlike ds ∧ (Sortable ds ∨ (ds.length ≤ 1 ∧ ∀ d ∈ ds, d ≠ .none)) ∧ PyData.depthAll ds ≤ 60 := by
  unfold sortOk at h
  simp only [Bool.and_eq_true, Bool.or_eq_true, decide_eq_true_eq] at h
  obtain ⟨⟨⟨⟨h1, h2⟩, h3⟩, h4⟩, h5⟩ := h
  refine ⟨fits_le h1, h2, ?_, ?_, h5⟩
  · intro d hd d' hd'
    unfold allAlikeB at h3
    rw [List.all_eq_true] at h3
    have := h3 d hd
    rw [List.all_eq_true] at this
    exact this d' hd'
  · rcases h4 with (h4 | h4) | ⟨h4, h6⟩
    · refine .inl (.inl fun d hd => ?_)
      rw [List.all_eq_true] at h4
      have := h4 d hd
      unfold tupNE at this
      split at this
      · exact ⟨_, _, rfl⟩
      · cases this
    · refine .inl (.inr fun d hd => ?_)
      rw [List.all_eq_true] at h4
      have := h4 d hd
      unfold notTN at this
      split at this
      · cases this
      · cases this
      · rename_i q1 q2; exact ⟨fun z => q1 z, fun xs z => q2 xs z⟩
    · refine .inr ⟨h4, fun d hd z => ?_⟩
      rw [List.all_eq_true] at h6
      have := h6 d hd
      rw [z] at this
      cases this
/-- what sorted gives, in the walk's terms -/
def rSortD (w : World) (K : PySem.W.Frag) : List V → Hp → VK → Prop := fun vs H Q => ∃ (Z : Hp) (p : Addr) (xs : List V) (ds : List D), vs = [.ref p] ∧ Same Z H ∧ (SqL K H p xs ∨ SqT K H p xs) ∧ RDs w K Z xs ds ∧ sortOk ds = true ∧
  ∀ ys l, RDs w K Z ys (sortL ds) → H l = none → Q (.ref l) (upd H l (.lst ys))
theorem cr_sortedD (hu : HasRoom X) : CallR X (.builtin "sorted") (rSortD X.w X.K) := by
  intro pins s σ H vs us Q I r h
  obtain ⟨Z, p, xs, ds, rfl, sz, hq, rd, ok, q⟩ := h
  obtain ⟨k1, k2, k3, k4, k5⟩ := sortOk_of ok
  rw [Vals.ref1 r]
  have fin : ∀ (its : List Value), Vals xs its → Collects X.prog X.w s (.ref p) its → wpAny (model X.prog X.w) X.A (call (.builtin "sorted") [.ref p]) (EP X pins σ Q) X.xe s := by
    intro its rv hc
    refine sorted_ds hc (each_rd rv rd) (each_reads I rv ((rd.mono sz).dp (plain_noDicts ds k2))) k3 k4 k1 (fun d hd => ?_) fun out h1 h2 => ?_
    · have := depth_mem hd
      have hu : X.A.units + 100 < cLine := hu
      omega
    · obtain ⟨ys, r2, rd2⟩ := rd_each h2
      obtain ⟨ep, he⟩ := sortedAll_at s.heap its out.toArray
      have hl : ys.length ≤ sizeLine := by
        rw [r2.length, h1]; exact k1
      exact ⟨.ref _, upd H (s.heap.objs.size + 1) (.lst ys), I.laid (t' := s.toks) (fun _ _ => sortedAll_old) (Nat.le_succ _) ⟨hl, out, ep, r2, he⟩, rfl, q _ _ rd2 (I.hok.fresh (Nat.le_succ _))⟩
  rcases hq with hq | hq
  · obtain ⟨its, rv, hl, hz⟩ := I.list hq
    exact fin its rv (collects_list hl.isList (by rw [← rv.length]; exact hz))
  · obtain ⟨its, rv, hl, hz⟩ := I.tuple hq
    exact fin its rv (collects_tup hl (by rw [← rv.length]; exact hz))
theorem co_sorted : CaO X (rSortD X.w X.K) dSorted := by
  intro Z H xs ds Q s r h
  unfold dSorted at h
  split at h
  · obtain ⟨v, rfl, r0⟩ := rds1 r
    obtain ⟨ok, h⟩ := h.guard
    cases r0 with
    | lst h1 r1 =>
      refine ⟨Z, _, _, _, rfl, s, .inl (.inl (.inl (s _ _ h1))), r1, ok, fun ys l rd hl => ?_⟩
      exact h l Z _ (Ext.newO s hl) hl (.lst (zfree s hl) upd_same rd)
  · obtain ⟨v, rfl, r0⟩ := rds1 r
    obtain ⟨ok, h⟩ := h.guard
    obtain ⟨p, xs, rfl, h1, r1⟩ := rd_tup r0
    refine ⟨Z, _, _, _, rfl, s, .inr (SqT.mono s h1), r1, ok, fun ys l rd hl => ?_⟩
    exact h l Z _ (Ext.newO s hl) hl (.lst (zfree s hl) upd_same rd)
  · exact h.elim
theorem eo_sorted (hu : HasRoom X) (hm : X.mg "sorted" = none) (ha : Ea X W [a] Fs) (hg : Gl X "sorted" := by rfl) : Eo X W (.Call (.Name "sorted" p) [a] [] pos) (eA dSorted Fs) :=
  eo_A (fun h => pe_callB (cr_sortedD hu) hg hm boot_sorted h (he := ha.se _ _ rfl) (hpl := ha.plt _ _ rfl _)) co_sorted cl_sorted ha
end
end PQ

/-! PQ.19: zip, enumerate -/
namespace PQ
open PySem PySem.Spec PyProof.Rows L2

/-! ### zip of two lists or of two tuples -/
def zipD (ds es : List D) : List D := (ds.zip es).map fun p => .tuple [p.1, p.2]
theorem zipD_get {ds es : List D} {i : Nat} {d : D} (h : (zipD ds es)[i]? = some d) : ∃ x y, ds[i]? = some x ∧ es[i]? = some y ∧ d = .tuple [x, y] := by
  unfold zipD at h
  rw [List.getElem?_map] at h
  cases e : (ds.zip es)[i]? with
  | none => rw [e] at h; cases h
  | some p =>
    rw [e] at h
    cases h
    obtain ⟨h1, h2⟩ := List.getElem?_zip_eq_some.mp e
    exact ⟨_, _, h1, h2, rfl⟩
theorem zipD_len (ds es : List D) : (zipD ds es).length = min ds.length es.length := by unfold zipD; simp
section
variable {X : Cx} {W : WX} {a b c e tg : Expr} {es : List Expr} {pos p tpos : Pos} {F G : EV} {Fs : EA} {elts : List Expr} {kk : Nat}
theorem io_zipL {Z : Hp} {l m : Addr} {xs ys : List V} {ds es : List D} (h1 : Z l = some (.lst xs)) (r1 : RDs X.w X.K Z xs ds) (h2 : Z m = some (.lst ys)) (r2 : RDs X.w X.K Z ys es) : ItOk X (Itz X.K l m) Z (zipD ds es) := by
  have a1 : ∀ {Z' H' : Hp}, Same Z Z' → Same Z' H' → SqL X.K H' l xs := fun s1 s2 => .inl (.inl (s2 _ _ (s1 _ _ h1)))
  have a2 : ∀ {Z' H' : Hp}, Same Z Z' → Same Z' H' → SqL X.K H' m ys := fun s1 s2 => .inl (.inl (s2 _ _ (s1 _ _ h2)))
  refine ⟨fun s1 s2 => ⟨xs, ys, a1 s1 s2, a2 s1 s2, ?_⟩, fun s1 s2 q => ?_, fun s1 s2 q y => ?_⟩
  · rw [zipD_len, r1.length, r2.length]; omega
  · obtain ⟨x, y, g1, g2, _⟩ := zipD_get q
    obtain ⟨u, hu, _⟩ := r1.get g1
    obtain ⟨v, hv, _⟩ := r2.get g2
    exact ⟨xs, ys, u, v, a1 s1 s2, a2 s1 s2, hu, hv⟩
  · obtain ⟨x, y', g1, g2, rfl⟩ := zipD_get q
    obtain ⟨u, hu, ru⟩ := r1.get g1
    obtain ⟨v, hv, rv⟩ := r2.get g2
    obtain ⟨T, u', v', rfl, hT, rfl, k1, k2⟩ := y
    have e1 : u' = u := Option.some.inj ((k1 _ (a1 s1 s2)).symm.trans hu)
    have e2 : v' = v := Option.some.inj ((k2 _ (a2 s1 s2)).symm.trans hv)
    subst e1 e2
    refine ⟨_, Ext.new (o := .tup [u', v']) s2 hT, .tup (.inl (.inl upd_same)) ?_⟩
    have sz := (Ext.new (o := .tup [u', v']) s2 hT).zz
    exact .cons ((ru.mono s1).mono sz) (.cons ((rv.mono s1).mono sz) .nil)
theorem io_zipT {Z : Hp} {l m : Addr} {xs ys : List V} {ds es : List D} (h1 : SqT X.K Z l xs) (r1 : RDs X.w X.K Z xs ds) (h2 : SqT X.K Z m ys) (r2 : RDs X.w X.K Z ys es) : ItOk X (RZ.ItzT X.K l m) Z (zipD ds es) := by
  have a1 : ∀ {Z' H' : Hp}, Same Z Z' → Same Z' H' → SqT X.K H' l xs := fun s1 s2 => SqT.mono s2 (SqT.mono s1 h1)
  have a2 : ∀ {Z' H' : Hp}, Same Z Z' → Same Z' H' → SqT X.K H' m ys := fun s1 s2 => SqT.mono s2 (SqT.mono s1 h2)
  refine ⟨fun s1 s2 => ⟨xs, ys, a1 s1 s2, a2 s1 s2, ?_⟩, fun s1 s2 q => ?_, fun s1 s2 q y => ?_⟩
  · rw [zipD_len, r1.length, r2.length]; omega
  · obtain ⟨x, y, g1, g2, _⟩ := zipD_get q
    obtain ⟨u, hu, _⟩ := r1.get g1
    obtain ⟨v, hv, _⟩ := r2.get g2
    exact ⟨xs, ys, u, v, a1 s1 s2, a2 s1 s2, hu, hv⟩
  · obtain ⟨x, y', g1, g2, rfl⟩ := zipD_get q
    obtain ⟨u, hu, ru⟩ := r1.get g1
    obtain ⟨v, hv, rv⟩ := r2.get g2
    obtain ⟨T, u', v', rfl, hT, rfl, k1, k2⟩ := y
    have e1 : u' = u := Option.some.inj ((k1 _ (a1 s1 s2)).symm.trans hu)
    have e2 : v' = v := Option.some.inj ((k2 _ (a2 s1 s2)).symm.trans hv)
    subst e1 e2
    refine ⟨_, Ext.new (o := .tup [u', v']) s2 hT, .tup (.inl (.inl upd_same)) ?_⟩
    have sz := (Ext.new (o := .tup [u', v']) s2 hT).zz
    exact .cons ((ru.mono s1).mono sz) (.cons ((rv.mono s1).mono sz) .nil)
def zipOf : D → D → R (List D)
  | .list ds, .list es => .ok (zipD ds es)
  | .tuple ds, .tuple es => .ok (zipD ds es)
  | _, _ => .stuck
def iZip (F G : EV) : EI := fun ρ => F ρ >>= fun x => G ρ >>= fun y => zipOf x y
theorem ei_zip (hm : X.mg "zip" = none) (ha : Ev X W a F) (hb : Ev X W b G) (hg : Gl X "zip" := by rfl) (na : starEach [a, b] X.env = (false, eval a X.env) :: starEach [b] X.env := by rfl) (nb : starEach [b] X.env = (false, eval b X.env) :: starEach [] X.env := by rfl)
    (hpl : (backTo pos (starEach [b] X.env)).any (·.1) = false := by rfl) : Ei X W (.Tuple elts kk tpos) (.Call (.Name "zip" p) [a, b] [] pos) (iZip F G) := by
  refine ⟨fun {Z0 H0 Z H σ ρ Q} r q => toAtI (RZ.pi_zipA hg hm (pa_cons pe_at (pa_cons pe_at pa_nil nb) na) na hpl) ?_⟩
  refine ha.go r (q.bind.mono fun d hd v Z1 H1 x1 r1 => ?_)
  refine hb.go (r.step x1) ((hd.bind.step x1).mono fun d2 hd2 v2 Z2 H2 x2 r2 => ?_)
  have r1 := r1.mono x2.zz
  cases r1 with
  | lst h1 q1 =>
    cases r2 with
    | lst h2 q2 => exact ⟨_, _, _, _, rfl, .inl ⟨.inl (.inl (x2.zh _ _ h1)), .inl (.inl (x2.zh _ _ h2)), hd2 _ _ _ (x1.trans x2) (io_zipL h1 q1 h2 q2)⟩⟩
    | _ => exact hd2.elim
  | tup h1 q1 =>
    cases r2 with
    | tup h2 q2 => exact ⟨_, _, _, _, rfl, .inr ⟨SqT.mono x2.zh h1, SqT.mono x2.zh h2, hd2 _ _ _ (x1.trans x2) (io_zipT h1 q1 h2 q2)⟩⟩
    | _ => exact hd2.elim
  | _ => exact hd2.elim

/-! ### enumerate -/
def enumFrom' : Nat → List D → List D
  | _, [] => []
  | i, d :: ds => .tuple [.int i, d] :: enumFrom' (i + 1) ds
def enumD (ds : List D) : List D := enumFrom' 0 ds
theorem enumFrom_get : ∀ (ds : List D) (n i : Nat) (d : D), (enumFrom' n ds)[i]? = some d → ∃ x, ds[i]? = some x ∧ d = .tuple [.int ((n + i : Nat) : Int), x]
  | [], n, i, d, h => by simp [enumFrom'] at h
  | x :: ds, n, 0, d, h => by
    simp [enumFrom'] at h
    exact ⟨x, rfl, h.symm⟩
  | x :: ds, n, i + 1, d, h => by
    obtain ⟨y, h1, h2⟩ := enumFrom_get ds (n + 1) i d (by simpa [enumFrom'] using h)
    refine ⟨y, by simpa using h1, ?_⟩
    rw [h2, show n + 1 + i = n + (i + 1) by omega]
theorem enumFrom_len : ∀ (ds : List D) (n : Nat), (enumFrom' n ds).length = ds.length
  | [], _ => rfl
  | _ :: ds, n => by rw [enumFrom', List.length_cons, enumFrom_len, List.length_cons]
theorem enumD_get {ds : List D} {i : Nat} {d : D} (h : (enumD ds)[i]? = some d) : ∃ x, ds[i]? = some x ∧ d = .tuple [.int (i : Nat), x] := by
  obtain ⟨x, h1, h2⟩ := enumFrom_get ds 0 i d h
  exact ⟨x, h1, by rw [h2, Nat.zero_add]⟩
theorem enumD_len (ds : List D) : (enumD ds).length = ds.length := enumFrom_len ds 0
/-- the pairs of what T holds -/
def Itn (T : Hp → List V → Prop) : It :=
  ⟨fun i H => ∃ xs x, T H xs ∧ xs[i]? = some x, fun i H v H' => ∃ q x, v = .ref q ∧ H q = none ∧ H' = upd H q (.tup [.int (i : Nat), x]) ∧ ∀ xs, T H xs → xs[i]? = some x, fun i H => ∃ xs, T H xs ∧ xs.length = i⟩
theorem io_enum {T : Hp → List V → Prop} {Z : Hp} {xs : List V} {ds : List D} (at' : ∀ {Z' H' : Hp}, Same Z Z' → Same Z' H' → T H' xs) (r : RDs X.w X.K Z xs ds) : ItOk X (Itn T) Z (enumD ds) := by
  refine ⟨fun s1 s2 => ⟨xs, at' s1 s2, by rw [enumD_len, r.length]⟩, fun s1 s2 q => ?_, fun s1 s2 q y => ?_⟩
  · obtain ⟨x, g, _⟩ := enumD_get q
    obtain ⟨u, hu, _⟩ := r.get g
    exact ⟨xs, u, at' s1 s2, hu⟩
  · obtain ⟨x, g, rfl⟩ := enumD_get q
    obtain ⟨u, hu, ru⟩ := r.get g
    obtain ⟨t, u', rfl, ht, rfl, k1⟩ := y
    have e1 : u' = u := Option.some.inj ((k1 _ (at' s1 s2)).symm.trans hu)
    subst e1
    refine ⟨_, Ext.new s2 ht, .tup (.inl (.inl upd_same)) ?_⟩
    exact .cons (.int _) (.cons ((ru.mono s1).mono (Ext.new (o := .tup _) s2 ht).zz) .nil)
/-- what an inner iterator does for enumerate -/
structure Inner (P : Program) (w : World) (K : PySem.W.Frag) (T : Hp → List V → Prop) (it : Addr) (S : Nat → Heap → Prop) : Prop where
  live : ∀ i h, S i h → ∃ o, h.get? it = some o ∧ ∀ v, o.data ≠ .cell v
  keep : ∀ i h h', S i h → (∀ o, h.get? it = some o → h'.get? it = some o) → S i h'
  draw : ∀ (X : Cx), X.prog = P → X.w = w → X.K = K → ∀ (pins : List (Addr × Obj)) (s : Shared) (σ : St) (H : Hp), Inv X pins σ H s → ∀ xs, T H xs → ∀ (e : Addr) (i : Int) (old : Value), IsEnum s.heap e it i old → ∀ j, S j s.heap → ∀ A : Around, A.handled = none →
    (∀ ys, T H ys → ys = xs) ∧ ∃ (fp : List Addr) (PP : Nat → Value → Prop) (St' : Nat → Heap → Prop), e ∉ fp ∧ (∀ i v x, PP i v → xs[i]? = some x → RelV x v) ∧ Draws P w A it fp xs.length PP St' ∧ (∀ i, S i s.heap → St' i s.heap) ∧ (∀ i h, St' i h → S i h)
theorem turn_en {P : Program} {w : World} {K : PySem.W.Frag} {T : Hp → List V → Prop} {e it : Addr} {S : Nat → Heap → Prop} (D : Inner P w K T it S) :
    Turn P w K (.Tuple elts kk tpos) (Itn T) [e, it] e (fun i h => (∃ old, IsEnum h e it ((i : Nat) : Int) old) ∧ S i h ∧ e ≠ it) where
  mem := by simp
  obj := fun i h st b hb => by
    obtain ⟨⟨old, he⟩, hi, _⟩ := st
    rcases (show b = e ∨ b = it by simpa using hb) with z | z
    · rw [z]; exact ⟨_, he, fun v q => nomatch q⟩
    · rw [z]; exact D.live i h hi
  keep := fun i h h' st k => let ⟨⟨old, he⟩, hi, hne⟩ := st; ⟨⟨old, k e (by simp) _ he⟩, D.keep i h h' hi fun o q => k it (by simp) o q, hne⟩
  item := by
    intro X hP hw hK hc i pins s σ H E I hf st hg
    obtain ⟨⟨old, he⟩, hi, hne⟩ := st
    obtain ⟨xs, x, hq, hx⟩ := hg
    obtain ⟨uq, fp, PP, St', hef, hrel, dr, in1, out1⟩ := D.draw X hP hw hK pins s σ H I xs hq e _ old he i hi X.A.in1 (I.ok.hd hc)
    subst hP hw hK
    have hlt : i < xs.length := (List.getElem?_eq_some_iff.mp hx).1
    have hel : e < s.heap.objs.size := Heap.lt_size he
    have hil : it < s.heap.objs.size := by obtain ⟨o, q, _⟩ := D.live i _ hi; exact Heap.lt_size q
    refine wpAny_pyNext_enum_itemD dr he (in1 i hi) hlt hne hef fun u h1 tk hu ho hst hT hsz hk => ?_
    refine ⟨_, rfl, wpAny_letOwnedTupleGo_enum (s := { s with heap := h1, toks := tk + 1 }) ho fun h2 he2 sb => ?_⟩
    have ru := hrel i u x hu hx
    have hT2 : h2.get? s.heap.objs.size = some { cls := .type "tuple", data := .seq #[.int i tk, u] } := (sb.2 _ (Nat.ne_of_gt hel)).trans hT
    have new : ObjOk X.prog X.w (upd H s.heap.objs.size (.tup [.int (i : Nat), x])) h2 s.heap.objs.size (.tup [.int (i : Nat), x]) :=
      ⟨by show 2 ≤ sizeLine; decide, [.int i tk, u], .cons ⟨_, rfl⟩ (.cons ru .nil), ⟨_, hT2, rfl, _, rfl⟩⟩
    have I1 : Inv X pins σ (upd H s.heap.objs.size (.tup [.int (i : Nat), x])) { s with heap := h2, toks := tk + 1 } :=
      I.turnedNew (ch := [e, it]) (fun b ob hb q => (sb.2 b (fun z => hb (by simp [z]))).trans (hk b ob (fun z => hb (by simp [z])) (fun z => hb (by simp [z])) q)) hf (Nat.le_refl _) new
    refine ⟨.ref s.heap.objs.size, _, I1, rfl, ⟨_, x, rfl, I.hok.fresh (Nat.le_refl _), rfl, fun ys hy => by rw [uq ys hy]; exact hx⟩, ⟨⟨u, ?_⟩, D.keep _ _ _ (out1 _ _ hst) (fun o q => (sb.2 it (Ne.symm hne)).trans q), hne⟩, fun b hb => ?_⟩
    · have e1 : ((i + 1 : Nat) : Int) = (i : Int) + 1 := by omega
      rw [e1]; exact he2
    · have hb2 : b < s.heap.objs.size := by
        rcases (show b = e ∨ b = it by simpa using hb) with z | z
        · rw [z]; exact hel
        · rw [z]; exact hil
      rw [upd_ne (Nat.ne_of_lt hb2)]
      exact (hf b hb).1
  done := by
    intro X hP hw hK hc i pins s σ H E I hf st hg
    obtain ⟨⟨old, he⟩, hi, hne⟩ := st
    obtain ⟨xs, hq, hx⟩ := hg
    obtain ⟨uq, fp, PP, St', hef, hrel, dr, in1, out1⟩ := D.draw X hP hw hK pins s σ H I xs hq e _ old he i hi X.A.in1 (I.ok.hd hc)
    subst hP hw hK
    obtain ⟨f0, f1, f2, f3, f4, f5⟩ := hf it (by simp)
    refine wpAny_pyNext_enum_endD dr he (by rw [hx]; exact in1 i hi) fun h1 eb => ⟨rfl, I.turned (t' := s.toks) (fun b o hb q => eb b o hb q) f0 f1 f3 f4 f5⟩
  self := fun A i s Q E st h => let ⟨⟨_, he⟩, _⟩ := st; wpAny_pyIter_enum he h
theorem inner_list {P : Program} {w : World} {K : PySem.W.Frag} {l it : Addr} : Inner P w K (fun H xs => SqL K H l xs) it (fun i h => h.IsListIter it l i ∧ l ≠ it) where
  live := fun i h ⟨⟨o, ho, hc, hd⟩, _⟩ => ⟨o, ho, fun v q => by rw [hd] at q; cases q⟩
  keep := fun i h h' ⟨hi, hn⟩ k => ⟨hi.at k, hn⟩
  draw := by
    intro X hP hw hK pins s σ H I xs hq e j old he j2 hS A hA
    subst hP hw hK
    obtain ⟨its, rv, p, hz⟩ := I.list hq
    have hl := rv.length
    refine ⟨fun ys hy => I.list_inj hy hq, [it, l], fun i v => its.toArray[i]? = some v, fun i h => h.IsListIter it l i ∧ h.IsList l its.toArray, ?_, fun i v x hv hx => ?_, ?_, fun i hi => ⟨hi.1, p.isList⟩, fun i h hh => ⟨hh.1, hS.2⟩⟩
    · intro hm
      rcases (show e = it ∨ e = l by simpa using hm) with z | z
      · obtain ⟨⟨o, ho, hc, _⟩, _⟩ := hS
        rw [← z, he] at ho
        cases ho
        revert hc
        show Value.type "enumerate" = Value.type "list_iterator" → False
        decide
      · obtain ⟨o, ho, hc, _⟩ := p.isList
        rw [← z, he] at ho
        cases ho
        revert hc
        show Value.type "enumerate" = Value.type "list" → False
        decide
    · obtain ⟨u, hu, ru⟩ := rv.get hx
      have : its.toArray[i]? = some u := by simpa using hu
      have hv : its.toArray[i]? = some v := hv
      rw [this] at hv
      cases hv; exact ru
    · have := Draws.list (prog := X.prog) (w := X.w) hA it l hS.2 its.toArray
      rw [List.size_toArray, ← hl] at this
      exact this
theorem draws_tup {prog : Program} {w : World} {A : Around} (hh : A.handled = none) (it l : Addr) (hne : l ≠ it) (items : Array Value) :
    Draws prog w A it [it, l] items.size (fun i v => items[i]? = some v) (fun i h => h.IsTupleIter it l i ∧ h.IsTuple l items) where
  live := fun _ _ st => let ⟨o, ho, _⟩ := st.1; ⟨o, ho⟩
  frame := fun _ _ _ st hk => ⟨st.1.at fun o e => hk it (by simp) o e, st.2.at fun o e => hk l (by simp) o e⟩
  item := fun i s Q E hi st hQ => by
    refine RZ.nextOf_tuple_item st.1 st.2 (x := items[i]) (by simp [hi]) fun h' hit' hs' => ?_
    exact hQ _ h' s.toks (by simp [hi]) ⟨hit', st.2.at fun o e => (hs'.2 l hne).trans e⟩ hs'
  done := fun s Q E st hE => RZ.nextOf_tuple_end hh st.1 st.2 (by simp) hE
theorem inner_tup {P : Program} {w : World} {K : PySem.W.Frag} {l it : Addr} : Inner P w K (fun H xs => SqT K H l xs) it (fun i h => h.IsTupleIter it l i ∧ l ≠ it) where
  live := fun i h ⟨⟨o, ho, hc, hd⟩, _⟩ => ⟨o, ho, fun v q => by rw [hd] at q; cases q⟩
  keep := fun i h h' ⟨hi, hn⟩ k => ⟨hi.at k, hn⟩
  draw := by
    intro X hP hw hK pins s σ H I xs hq e j old he j2 hS A hA
    subst hP hw hK
    obtain ⟨its, rv, p, hz⟩ := I.tuple hq
    have hl := rv.length
    refine ⟨fun ys hy => I.tuple_inj hy hq, [it, l], fun i v => its.toArray[i]? = some v, fun i h => h.IsTupleIter it l i ∧ h.IsTuple l its.toArray, ?_, fun i v x hv hx => ?_, ?_, fun i hi => ⟨hi.1, p⟩, fun i h hh => ⟨hh.1, hS.2⟩⟩
    · intro hm
      rcases (show e = it ∨ e = l by simpa using hm) with z | z
      · obtain ⟨⟨o, ho, hc, _⟩, _⟩ := hS
        rw [← z, he] at ho
        cases ho
        revert hc
        show Value.type "enumerate" = Value.type "tuple_iterator" → False
        decide
      · obtain ⟨o, ho, hc, _⟩ := p
        rw [← z, he] at ho
        cases ho
        revert hc
        show Value.type "enumerate" = Value.type "tuple" → False
        decide
    · obtain ⟨u, hu, ru⟩ := rv.get hx
      have : its.toArray[i]? = some u := by simpa using hu
      have hv : its.toArray[i]? = some v := hv
      rw [this] at hv
      cases hv; exact ru
    · have := draws_tup (prog := X.prog) (w := X.w) hA it l hS.2 its.toArray
      rw [List.size_toArray, ← hl] at this
      exact this
def signsV (z : Str) : List V := z.cps.toList.map fun c => .str ⟨#[c]⟩
theorem inner_str {P : Program} {w : World} {K : PySem.W.Frag} {it : Addr} {z : Str} {t : Tok} : Inner P w K (fun _ xs => xs = signsV z) it (fun i h => h.IsStrIter it (strIterType z) z t i) where
  live := fun i h ⟨o, ho, hc, hd⟩ => ⟨o, ho, fun v q => by rw [hd] at q; cases q⟩
  keep := fun i h h' ⟨o, ho, r⟩ k => ⟨o, k o ho, r⟩
  draw := by
    intro X hP hw hK pins s σ H I xs hq e j old he j2 hS A hA
    subst hP hw hK hq
    have hl : (signsV z).length = z.cps.size := by unfold signsV; simp
    refine ⟨fun ys hy => hy, [it], fun i v => ∃ c u, z.cps[i]? = some c ∧ v = .str ⟨#[c]⟩ u, fun i h => h.IsStrIter it (strIterType z) z t i, ?_, fun i v x hv hx => ?_, ?_, fun i hi => hi, fun i h hh => hh⟩
    · intro hm
      have z1 : e = it := by simpa using hm
      obtain ⟨o, ho, hc, hd⟩ := hS
      rw [← z1, he] at ho
      cases ho
      revert hc
      show Value.type "enumerate" = Value.type (strIterType z) → False
      unfold strIterType
      split <;> decide
    · obtain ⟨c, u, h1, rfl⟩ := hv
      unfold signsV at hx
      rw [List.getElem?_map] at hx
      have : z.cps.toList[i]? = some c := by rw [Array.getElem?_toList]; exact h1
      rw [this] at hx
      cases hx
      exact ⟨u, rfl⟩
    · rw [hl]
      cases ha : z.cps.all (· < 128)
      · have : strIterType z = "str_iterator" := by simp [strIterType, ha]
        rw [this]
        exact Draws.strWide hA it z t
      · have : strIterType z = "str_ascii_iterator" := by simp [strIterType, ha]
        rw [this]
        exact Draws.strAscii hA it z t
set_option maxHeartbeats 1000000 in
theorem meets_enum1 {v : Value} {o : Obj} {H : Heap → Prop} (B : PySem.Begins v o H) :
    Meets (Builtin.«enumerate.__new__» ⟨[.type "enumerate", v], []⟩) (fun _ R s => H s.heap ∧
      R (.ok (.ret (.ref (s.heap.push o).objs.size))) { s with heap := (s.heap.push o).push { cls := .type "enumerate", data := .fields #[.none, .bool false, .ref s.heap.objs.size, rawInt 0, .none, .none] } }) :=
  .of_wp fun prog w A R s h => by
    obtain ⟨hp, g, d, tk, os⟩ := s; obtain ⟨h1, h⟩ := h
    have hsub := sub_enumerate
    have q1 : ∀ {A' : Around} {E : Value → Shared → Prop} {Q : Value → Shared → Prop}, Q (.ref hp.objs.size) ⟨hp.push o, g, d, tk, os⟩ → wpAny (model prog w) A' (pyIter v) Q E ⟨hp, g, d, tk, os⟩ :=
      fun q => B.iter prog w _ _ ⟨hp, g, d, tk, os⟩ _ h1 q
    wp_walk using q1
    refine wpAny_stack_any fun st => wpAny_pure ?_
    split
    · rename_i c _ _ _ _ _
      cases (c == Value.type "enumerate")
      · wp_walk using q1
        exact ⟨_, rfl, h⟩
      · wp_walk using q1
        exact ⟨_, rfl, h⟩
    · wp_walk using q1
      exact ⟨_, rfl, h⟩
theorem call_enum {prog : Program} {w : World} {A : Around} {E : Value → Shared → Prop} {s : Shared} {v : Value} {o : Obj} {H : Heap → Prop} {Q : Value → Shared → Prop} (B : PySem.Begins v o H) (h1 : H s.heap)
    (h : ∀ h', IsEnum h' (s.heap.objs.size + 1) s.heap.objs.size 0 .none → h'.get? s.heap.objs.size = some o → (∀ b o, s.heap.get? b = some o → h'.get? b = some o) → Q (.ref (s.heap.objs.size + 1)) { s with heap := h' }) :
    wpAny (model prog w) A (call (.type "enumerate") [v]) Q E s := by
  refine callType_new F.called_enumerate (by decide) (F.typeCall_enumerate_1 _) (F.newCall_enumerate_1 _) (fun obj => F.args_object_init_2 obj _) F.entry_enumerate_new (meets_enum1 B) ⟨h1, ?_⟩
  have hz : (s.heap.push o).objs.size = s.heap.objs.size + 1 := Heap.size_push ..
  show _ ∧ _
  rw [hz]
  have he : IsEnum ((s.heap.push o).push { cls := .type "enumerate", data := .fields #[.none, .bool false, .ref s.heap.objs.size, rawInt 0, .none, .none] }) (s.heap.objs.size + 1) s.heap.objs.size 0 .none := by
    have := Heap.get?_push_size (s.heap.push o) (o := { cls := .type "enumerate", data := .fields #[.none, .bool false, .ref s.heap.objs.size, rawInt 0, .none, .none] }) rfl
    rw [hz] at this; exact this
  exact ⟨⟨_, he, rfl⟩, h _ he (Heap.get?_push_of_some _ (Heap.get?_push_size _ B.free)) fun b o x => Heap.get?_push_of_some _ (Heap.get?_push_of_some _ x)⟩
theorem enum_go {T : Hp → List V → Prop} {S : Nat → Heap → Prop} {pins : List (Addr × Obj)} {s : Shared} {σ : St} {H : Hp} {v : Value} {o : Obj} {HH : Heap → Prop} {R' : It → Hp → Prop} {A : Around} {E : Value → Shared → Prop} (I : Inv X pins σ H s) (B : PySem.Begins v o HH) (h1 : HH s.heap)
    (D : Inner X.prog X.w X.K T s.heap.objs.size S) (st : ∀ h' : Heap, h'.get? s.heap.objs.size = some o → S 0 h') (q : R' (Itn T) H) :
    wpAny (model X.prog X.w) A (call (.type "enumerate") [v]) (fun v s1 => wpAny (model X.prog X.w) X.A (pyIter v) (PIE X pins σ (.Tuple elts kk tpos) R') X.xe s1) E s := by
  refine call_enum B h1 fun h2 he ho hk => wpAny_pyIter_enum he ?_
  have I2 : Inv X pins σ H { s with heap := h2 } := I.kept (t' := s.toks) hk
  refine ⟨s.heap.objs.size + 1, [s.heap.objs.size + 1, s.heap.objs.size], _, _, H, rfl, I2, turn_en D, ⟨⟨.none, he⟩, st _ ho, Nat.succ_ne_self _⟩, fun b hb => ?_, q⟩
  have hle : s.heap.objs.size ≤ b := by
    rcases (show b = s.heap.objs.size + 1 ∨ b = s.heap.objs.size by simpa using hb) with z | z
    · rw [z]; exact Nat.le_add_right _ _
    · rw [z]; exact Nat.le_refl _
  exact I.fpOk hle (I.hok.fresh hle)
def iEnumD (F : EV) : EI := fun ρ => F ρ >>= fun x => seqOf x >>= fun ds => .ok (enumD ds)
theorem ei_enum (hm : X.mg "enumerate" = none) (ha : Ev X W a F) (hg : Gl X "enumerate" := by rfl) (na : starEach [a] X.env = (false, eval a X.env) :: starEach [] X.env := by rfl) (hs : starEach [a] X.env = [(false, eval a X.env)] := by rfl) :
    Ei X W (.Tuple elts kk tpos) (.Call (.Name "enumerate" p) [a] [] pos) (iEnumD F) := by
  refine ⟨fun {Z0 H0 Z H σ ρ Q} r q pins s I => ?_⟩
  have g : PAat X [a] σ H (fun vs H1 => ∃ Z1 d x, vs = [x] ∧ RD X.w X.K Z1 x d ∧ Ext Z H Z1 H1 ∧ Post X W Z H σ (seqOf d >>= fun ds => .ok (enumD ds)) (fun ds => ∀ J Z' H', Ext Z H Z' H' → ItOk X J Z' ds → Q J H')) := by
    refine (toAtA (pa_cons pe_at pa_nil na) ?_)
    exact ha.go r (q.bind.mono fun d hd v Z1 H1 x1 r1 => ⟨Z1, d, v, rfl, r1, x1, hd⟩)
  refine Call_ (ld_blt I hg hm boot_enumerate (PyProof.Rows.callWith_type1 (thn (g pos pins s I) fun us s1 ⟨vs, H1, I1, r1, Z1, d, x, ex, rd, x1, q1⟩ => ?_) hs rfl))
  subst ex
  obtain ⟨u, rfl, rx⟩ := vals1 r1
  cases rd with
  | lst h1 rr =>
    cases rx
    obtain ⟨its, rv, pl, hz⟩ := I1.list (.inl (.inl (x1.zh _ _ h1)))
    refine enum_go I1 (PySem.begins_list _ its.toArray) pl.isList inner_list (fun h' ho => ⟨⟨_, ho, rfl, rfl⟩, ?_⟩) ?_
    · obtain ⟨o, ho, _⟩ := pl.isList
      exact Nat.ne_of_lt (Heap.lt_size ho)
    · exact q1 _ _ _ x1 (io_enum (fun s1 s2 => .inl (.inl (s2 _ _ (s1 _ _ h1)))) rr)
  | tup h1 rr =>
    cases rx
    obtain ⟨its, rv, pl, hz⟩ := I1.tuple (SqT.mono x1.zh h1)
    refine enum_go I1 (PySem.begins_tuple _ its.toArray) pl inner_tup (fun h' ho => ⟨⟨_, ho, rfl, rfl⟩, ?_⟩) ?_
    · obtain ⟨o, ho, _⟩ := pl
      exact Nat.ne_of_lt (Heap.lt_size ho)
    · exact q1 _ _ _ x1 (io_enum (fun s1 s2 => SqT.mono s2 (SqT.mono s1 h1)) rr)
  | str z =>
    obtain ⟨t, rfl⟩ := rx
    refine enum_go I1 (PySem.begins_text z t) trivial inner_str (fun h' ho => ⟨_, ho, rfl, rfl⟩) ?_
    refine q1 _ _ _ x1 (io_enum (fun _ _ => rfl) ?_)
    unfold signs signsV
    generalize z.cps.toList = l
    induction l with
    | nil => exact .nil
    | cons c l ih => exact .cons (.str _) ih
  | _ => exact q1.elim
end
@[simp] theorem x_iZip (F G : EV) (ρ : Rho) : iZip F G ρ = (F ρ >>= fun x => G ρ >>= fun y => zipOf x y) := id rfl
@[simp] theorem x_zipL (ds es : List D) : zipOf (.list ds) (.list es) = .ok (zipD ds es) := id rfl
@[simp] theorem x_zipT (ds es : List D) : zipOf (.tuple ds) (.tuple es) = .ok (zipD ds es) := id rfl
@[simp] theorem x_iEnumD (F : EV) (ρ : Rho) : iEnumD F ρ = (F ρ >>= fun x => seqOf x >>= fun ds => .ok (enumD ds)) := id rfl
@[simp] theorem x_sortedL (ds : List D) : dSorted [.list ds] = guardR (sortOk ds) (.list (sortL ds)) := id rfl
@[simp] theorem x_sortedT (ds : List D) : dSorted [.tuple ds] = guardR (sortOk ds) (.list (sortL ds)) := id rfl
end PQ

/-! PQ.20: own lists: x[i] = v, x.pop(), x.extend(y); sum, min, max of lists -/
namespace PQ
open PySem PySem.Spec PyProof.Rows L2

section
variable {X : Cx} {W : WX} {Z0 H0 Z H : Hp} {σ : St} {ρ : Rho}
variable {st : Stmt} {sts : List Stmt} {e a b c ie tg : Expr} {pos p p1 p2 : Pos} {F G : EV} {T : ET} {S S' : ES} {es : List Expr} {Fs : EA}
theorem RDs.set2 {w : World} {K : PySem.W.Frag} {Z : Hp} {vs : List V} {ds : List D} {v : V} {d : D} (h : RDs w K Z vs ds) (r : RD w K Z v d) (i : Nat) : RDs w K Z (vs.set i v) (ds.set i d) := RDs.set r i h
/-- x[i] = v -/
def sSetIx (i : Nat) (F G : EV) : ES := fun ρ => Out.of (F ρ) ρ fun d => Out.of (slO ρ[i]?) ρ fun ds => Out.of (G ρ >>= asI) ρ fun k => Out.of (oR (ixN ds.length k)) ρ fun j => .nx (ρ.set i (.o (.list (ds.set j d))))
theorem es_setIx (i : Nat) {x : Str} (h : Ev X W e F) (hg : Ev X W ie G) (hi : X.N[i]? = some x := by rfl) (hv : Vis X.env.scope x := by first | exact Or.inl rfl | exact Or.inr (Or.inl rfl) | exact Or.inr (Or.inr rfl)) (hd : (x == ("__debug__" : Str)) = false := by decide)
    (hcd : (x == ("__classdict__" : Str)) = false := by decide)
    (ha : ∀ v, assign (.Subscript (.Name x p1) ie p2) X.env v = (do
      let ov ← holding [v] (eval (.Name x p1) X.env)
      let iv ← holding [v, ov] (eval ie X.env)
      standAt p2
      holding [v, ov, iv] (setItem ov iv v)
      release [v, ov, iv] []) := by intro _; rfl)
    (hs : swapsWithSole [.Subscript (.Name x p1) ie p2] e pos.line X.env = pure false := by rfl) (hw : swappedStores [.Subscript (.Name x p1) ie p2] e X.env = pure none := by rfl)
    (h1 : (assignEach [.Subscript (.Name x p1) ie p2] X.env).map (·.2) = [assign (.Subscript (.Name x p1) ie p2) X.env] := by rfl) : Es X W (.Assign [.Subscript (.Name x p1) ie p2] e pos) (sSetIx i F G) := by
  refine ⟨fun {Z0 H0 Z H σ ρ En} r q => toAtS (ps_asg pe_at (pg_sub (pe_var hi hv hd hcd) pe_at set_list ha) hs hw h1) ?_⟩
  refine h.go r ((q.post r).mono fun d q v Z1 H1 x1 r1 => ?_)
  cases hr : ρ[i]? with
  | none => rw [hr] at q; exact q.elim
  | some s =>
    rw [hr] at q
    cases s with
    | o dd =>
      cases dd with
      | list ds =>
        have q : SPost X W Z0 H0 Z (Out.of (G ρ >>= asI) ρ fun k => Out.of (oR (ixN ds.length k)) ρ fun j => .nx (ρ.set i (.o (.list (ds.set j d))))) En := q
        obtain ⟨l, hl, ho, h0⟩ := r.getO hr
        cases ho with
        | lst hz hH rds =>
          rename_i xs
          refine ⟨_, hl, ?_⟩
          refine hg.go (r.step x1) (((q.post r).bind.step x1).mono fun k q u Z2 H2 x2 r2 => ?_)
          cases k with
          | int k =>
            cases r2
            have q : SPost X W Z0 H0 Z (Out.of (oR (ixN ds.length k)) ρ fun j => .nx (ρ.set i (.o (.list (ds.set j d))))) En := q
            cases hj : ixN ds.length k with
            | none => rw [hj] at q; exact q.elim
            | some j =>
              rw [hj] at q
              have x12 := x1.trans x2
              have zl : Z2 l = none := x12.nw l _ hz hH
              refine ⟨l, xs, k, j, rfl, rfl, x12.hh _ _ hH, by rw [rds.length]; exact hj, ?_⟩
              refine q _ _ _ (Rep.mutate (r.step x12) hr hl h0 zl ?_) x12.zz
              exact .lst zl upd_same ((rds.mono x12.zz).set2 (r1.mono x2.zz) j)
          | _ => exact q.elim
      | _ => exact q.elim
    | _ => exact q.elim
/-- targets = x.pop() -/
def sPopA (i : Nat) (A : EG) : ES := fun ρ => Out.of (slO ρ[i]?) ρ fun ds => Out.of (oR ds.getLast?) ρ fun d => Out.of (A d (ρ.set i (.o (.list ds.dropLast)))) ρ .nx
theorem RDs.dropLast {w : World} {K : PySem.W.Frag} {Z : Hp} {vs : List V} {ds : List D} (h : RDs w K Z vs ds) : RDs w K Z vs.dropLast ds.dropLast := by
  rw [List.dropLast_eq_take, List.dropLast_eq_take, h.length]
  exact h.take _
theorem es_popA (i : Nat) {x : Str} {ap cp : Pos} {A : EG} {js : List Nat} (hg : Eg X tg A js) (hi : X.N[i]? = some x := by rfl) (hv : Vis X.env.scope x := by first | exact Or.inl rfl | exact Or.inr (Or.inl rfl) | exact Or.inr (Or.inr rfl)) (hd : (x == ("__debug__" : Str)) = false := by decide)
    (hcd : (x == ("__classdict__" : Str)) = false := by decide)
    (hbase : attributeBase (.Name x p) "pop" X.env (eval (.Name x p) X.env) = eval (.Name x p) X.env := by rfl) (hline : (ap.endLine == cp.line) = true := by rfl)
    (hs : swapsWithSole [tg] (.Call (.Attribute (.Name x p) "pop" ap) [] [] cp) pos.line X.env = pure false := by rfl) (hw : swappedStores [tg] (.Call (.Attribute (.Name x p) "pop" ap) [] [] cp) X.env = pure none := by rfl)
    (h1 : (assignEach [tg] X.env).map (·.2) = [assign tg X.env] := by rfl) : Es X W (.Assign [tg] (.Call (.Attribute (.Name x p) "pop" ap) [] [] cp) pos) (sPopA i A) := by
  refine ⟨fun {Z0 H0 Z H σ ρ En} r q => toAtS (ps_asg (pe_bm0 PySem.F.plainAttrs_list PySem.F.slot_list_pop PySem.F.type_list_pop mt_pop (pe_var hi hv hd hcd) hbase hline) pg_at hs hw h1) ?_⟩
  unfold sPopA at q
  cases hr : ρ[i]? with
  | none => rw [hr] at q; exact q.elim
  | some s =>
    rw [hr] at q
    cases s with
    | o dd =>
      cases dd with
      | list ds =>
        have q : SPost X W Z0 H0 Z (Out.of (oR ds.getLast?) ρ fun d => Out.of (A d (ρ.set i (.o (.list ds.dropLast)))) ρ .nx) En := q
        obtain ⟨l, hl, ho, h0⟩ := r.getO hr
        cases ho with
        | lst hz hH rds =>
          rename_i xs
          refine ⟨_, hl, .inl ⟨rfl, xs, .inl (.inl hH)⟩, ?_⟩
          cases hlast : ds.getLast? with
          | none => rw [hlast] at q; exact q.elim
          | some d =>
            rw [hlast] at q
            have q : SPost X W Z0 H0 Z (Out.of (A d (ρ.set i (.o (.list ds.dropLast)))) ρ .nx) En := q
            have hd : ds[ds.length - 1]? = some d := by rw [List.getLast?_eq_getElem?] at hlast; exact hlast
            obtain ⟨v, hv1, rv⟩ := rds.get hd
            refine ⟨l, xs, v, rfl, rfl, hH, by rw [rds.length]; exact hv1, ?_⟩
            have rm := Rep.mutate r hr hl h0 hz (Own.lst (w := X.w) (K := X.K) (H := upd H l (.lst xs.dropLast)) hz upd_same rds.dropLast)
            refine hg.go rm rv ?_
            have cl := hg.cl d (ρ.set i (.o (.list ds.dropLast)))
            cases e1 : A d (ρ.set i (.o (.list ds.dropLast))) with
            | ok ρ1 => rw [e1] at q; exact fun σ' o r' => q _ _ _ r' (Same.refl _)
            | exc x => rw [e1] at cl; exact cl.elim
            | stuck => rw [e1] at q; exact q.elim
      | _ => exact q.elim
    | _ => exact q.elim
/-- x.extend(e) -/
def asL : D → R (List D)
  | .list ds => .ok ds
  | _ => .stuck
def sExt (i : Nat) (F : EV) : ES := fun ρ => Out.of (slO ρ[i]?) ρ fun ds => Out.of (F ρ >>= asL) ρ fun es => Out.of (guardR (fits (ds.length + es.length)) ()) ρ fun _ => .nx (ρ.set i (.o (.list (ds ++ es))))
theorem es_ext (i : Nat) {x : Str} {ap cp pe : Pos} (h : Ev X W e F) (hi : X.N[i]? = some x := by rfl) (hv : Vis X.env.scope x := by first | exact Or.inl rfl | exact Or.inr (Or.inl rfl) | exact Or.inr (Or.inr rfl)) (hd : (x == ("__debug__" : Str)) = false := by decide)
    (hcd : (x == ("__classdict__" : Str)) = false := by decide) (hs : swapsWith (.Call (.Attribute (.Name x p) "extend" ap) [e] [] cp) none pe.line X.env = pure false := by rfl)
    (hbase : attributeBase (.Name x p) "extend" X.env (eval (.Name x p) X.env) = eval (.Name x p) X.env := by rfl)
    (hfew : ((backTo cp (starEach (e :: []) X.env)).all (fun x => !x.1) && (backToKw cp (keywordEach [] X.env)).all (fun x => x.1.isSome)
      && decide ((e :: ([] : List Expr)).length + ([] : List Keyword).length + (if ([] : List Keyword).isEmpty then 0 else 1) < 30)) = true := by rfl)
    (hline : (ap.endLine == cp.line) = true := by rfl) (hs' : starEach (e :: []) X.env = (false, eval e X.env) :: starEach [] X.env := by rfl) (hplain : (backTo cp (starEach [] X.env)).any (·.1) = false := by rfl) :
    Es X W (.Expr (.Call (.Attribute (.Name x p) "extend" ap) [e] [] cp) pe) (sExt i F) := by
  refine ⟨fun {Z0 H0 Z H σ ρ En} r q => toAtS (ps_expr (pe_bm PySem.F.plainAttrs_list PySem.F.slot_list_extend PySem.F.type_list_extend mt_extend (pe_var hi hv hd hcd) (pa_cons pe_at pa_nil hs') hbase hfew hline hs' hplain) hs) ?_⟩
  unfold sExt at q
  cases hr : ρ[i]? with
  | none => rw [hr] at q; exact q.elim
  | some s =>
    rw [hr] at q
    cases s with
    | o dd =>
      cases dd with
      | list ds =>
        have q : SPost X W Z0 H0 Z (Out.of (F ρ >>= asL) ρ fun es => Out.of (guardR (fits (ds.length + es.length)) ()) ρ fun _ => .nx (ρ.set i (.o (.list (ds ++ es))))) En := q
        obtain ⟨l, hl, ho, h0⟩ := r.getO hr
        cases ho with
        | lst hz hH rds =>
          rename_i xs
          refine ⟨_, hl, .inl ⟨rfl, xs, .inl (.inl hH)⟩, ?_⟩
          refine h.go r ((q.post r).bind.mono fun d q u Z1 H1 x1 r1 => ?_)
          cases d with
          | list es =>
            cases r1 with
            | lst g1 g2 =>
              have q : SPost X W Z0 H0 Z (Out.of (guardR (fits (ds.length + es.length)) ()) ρ fun _ => .nx (ρ.set i (.o (.list (ds ++ es))))) En := q
              unfold guardR at q
              split at q
              · rename_i hf
                have hf := fits_le hf
                have zl : Z1 l = none := x1.nw l _ hz hH
                refine ⟨l, _, xs, _, rfl, rfl, x1.hh _ _ hH, x1.zh _ _ g1, by rw [rds.length, g2.length]; exact hf, ?_⟩
                refine q _ _ _ (Rep.mutate (r.step x1) hr hl h0 zl ?_) x1.zz
                exact .lst zl upd_same ((rds.mono x1.zz).append g2)
              · exact q.elim
          | _ => exact q.elim
      | _ => exact q.elim
    | _ => exact q.elim

/-! ### sum, min, max of a list of whole numbers -/
def intL : List D → R (List Int)
  | [] => .ok []
  | .int b :: r => intL r >>= fun bs => .ok (b :: bs)
  | _ :: _ => .stuck
theorem ints_map (bs : List Int) : intL (bs.map .int) = .ok bs := by
  induction bs with
  | nil => rfl
  | cons b bs ih => rw [List.map_cons, intL, ih]; rfl
theorem ints_ok : ∀ {ds : List D} {bs : List Int}, intL ds = .ok bs → ds = bs.map .int
  | [], bs, h => by cases h; rfl
  | .int b :: r, bs, h => by
    rw [intL] at h
    cases e : intL r with
    | ok cs => rw [e, R.ok_bind] at h; cases h; rw [List.map_cons, ints_ok e]
    | exc x => rw [e] at h; cases h
    | stuck => rw [e] at h; cases h
  | .none :: _, _, h => by cases h
  | .bool _ :: _, _, h => by cases h
  | .str _ :: _, _, h => by cases h
  | .list _ :: _, _, h => by cases h
  | .tuple _ :: _, _, h => by cases h
  | .dict _ :: _, _, h => by cases h
theorem ints_clean : ∀ ds : List D, (intL ds).clean
  | [] => trivial
  | .int b :: r => by rw [intL]; exact clean_bind (ints_clean r) fun _ => trivial
  | .none :: _ => trivial
  | .bool _ :: _ => trivial
  | .str _ :: _ => trivial
  | .list _ :: _ => trivial
  | .tuple _ :: _ => trivial
  | .dict _ :: _ => trivial
def lmin : Int → List Int → Int
  | m, [] => m
  | m, x :: xs => lmin (if x < m then x else m) xs
def lmax : Int → List Int → Int
  | m, [] => m
  | m, x :: xs => lmax (if m < x then x else m) xs
theorem lmin_le : ∀ (m : Int) (xs : List Int), lmin m xs ≤ m ∧ ∀ y ∈ xs, lmin m xs ≤ y
  | m, [] => ⟨Int.le_refl _, fun _ h => by cases h⟩
  | m, x :: xs => by
    obtain ⟨h1, h2⟩ := lmin_le (if x < m then x else m) xs
    rw [lmin]
    refine ⟨by split at h1 <;> rename_i q <;> simp [q] <;> omega, fun y hy => ?_⟩
    rcases List.mem_cons.mp hy with rfl | hy
    · split at h1 <;> rename_i q <;> simp [q] <;> omega
    · exact h2 y hy
theorem lmin_mem : ∀ (m : Int) (xs : List Int), lmin m xs = m ∨ lmin m xs ∈ xs
  | m, [] => .inl rfl
  | m, x :: xs => by
    rw [lmin]
    rcases lmin_mem (if x < m then x else m) xs with h | h
    · by_cases q : x < m
      · right; rw [if_pos q] at h ⊢; rw [h]; exact List.mem_cons_self
      · left; rw [if_neg q] at h ⊢; exact h
    · right; exact List.mem_cons_of_mem _ h
theorem lmax_ge : ∀ (m : Int) (xs : List Int), m ≤ lmax m xs ∧ ∀ y ∈ xs, y ≤ lmax m xs
  | m, [] => ⟨Int.le_refl _, fun _ h => by cases h⟩
  | m, x :: xs => by
    obtain ⟨h1, h2⟩ := lmax_ge (if m < x then x else m) xs
    rw [lmax]
    refine ⟨by split at h1 <;> rename_i q <;> simp [q] <;> omega, fun y hy => ?_⟩
    rcases List.mem_cons.mp hy with rfl | hy
    · split at h1 <;> rename_i q <;> simp [q] <;> omega
    · exact h2 y hy
theorem lmax_mem : ∀ (m : Int) (xs : List Int), lmax m xs = m ∨ lmax m xs ∈ xs
  | m, [] => .inl rfl
  | m, x :: xs => by
    rw [lmax]
    rcases lmax_mem (if m < x then x else m) xs with h | h
    · by_cases q : m < x
      · right; rw [if_pos q] at h ⊢; rw [h]; exact List.mem_cons_self
      · left; rw [if_neg q] at h ⊢; exact h
    · right; exact List.mem_cons_of_mem _ h
def dSum : List D → R D
  | [.list ds] => intL ds >>= fun ns => .ok (.int ns.sum)
  | _ => .stuck
def dMinL : List D → R D
  | [.list ds] => intL ds >>= fun ns => match ns with
    | m :: ns => .ok (.int (lmin m ns))
    | [] => .stuck
  | _ => .stuck
def dMaxL : List D → R D
  | [.list ds] => intL ds >>= fun ns => match ns with
    | m :: ns => .ok (.int (lmax m ns))
    | [] => .stuck
  | _ => .stuck
theorem cl_sum (x : List D) : (dSum x).clean := by unfold dSum; split <;> first | trivial | exact clean_bind (ints_clean _) fun _ => trivial
theorem cl_minL (x : List D) : (dMinL x).clean := by unfold dMinL; split <;> first | trivial | exact clean_bind (ints_clean _) fun ns => by cases ns <;> trivial
theorem cl_maxL (x : List D) : (dMaxL x).clean := by unfold dMaxL; split <;> first | trivial | exact clean_bind (ints_clean _) fun ns => by cases ns <;> trivial
theorem cd_sum : CaD X (rSum X.K) dSum := by
  intro Z H xs ds Q s r h
  unfold dSum at h
  split at h
  · rename_i ds
    obtain ⟨v, rfl, r0⟩ := rds1 r
    cases e : intL ds with
    | ok ns =>
      rw [e] at h
      have ed := ints_ok e
      subst ed
      cases r0 with
      | lst h1 r1 =>
        have := rds_ints r1
        subst this
        exact ⟨_, ns, rfl, .inl (.inl (s _ _ h1)), h _ _ _ (Ext.refl s) (.int _)⟩
    | exc x => rw [e] at h; exact h.elim
    | stuck => rw [e] at h; exact h.elim
  · exact h.elim
theorem cd_minL : CaD X (rMin X.K) dMinL := by
  intro Z H xs ds Q s r h
  unfold dMinL at h
  split at h
  · rename_i ds
    obtain ⟨v, rfl, r0⟩ := rds1 r
    cases e : intL ds with
    | ok ns =>
      rw [e] at h
      have ed := ints_ok e
      subst ed
      cases ns with
      | nil => exact h.elim
      | cons m ns =>
        cases r0 with
        | lst h1 r1 =>
          have := rds_ints r1
          subst this
          refine ⟨_, m :: ns, rfl, .inl (.inl (s _ _ h1)), Nat.succ_pos _, fun k hk hle => ?_⟩
          have ek : k = lmin m ns := by
            obtain ⟨g1, g2⟩ := lmin_le m ns
            have g3 : lmin m ns ∈ m :: ns := by
              rcases lmin_mem m ns with z | z
              · rw [z]; exact List.mem_cons_self
              · exact List.mem_cons_of_mem _ z
            have g4 := hle _ g3
            have g5 : lmin m ns ≤ k := by
              rcases List.mem_cons.mp hk with z | z
              · rw [z]; exact g1
              · exact g2 _ z
            omega
          rw [ek]
          exact h _ _ _ (Ext.refl s) (.int _)
    | exc x => rw [e] at h; exact h.elim
    | stuck => rw [e] at h; exact h.elim
  · exact h.elim
theorem cd_maxL : CaD X (rMax X.K) dMaxL := by
  intro Z H xs ds Q s r h
  unfold dMaxL at h
  split at h
  · rename_i ds
    obtain ⟨v, rfl, r0⟩ := rds1 r
    cases e : intL ds with
    | ok ns =>
      rw [e] at h
      have ed := ints_ok e
      subst ed
      cases ns with
      | nil => exact h.elim
      | cons m ns =>
        cases r0 with
        | lst h1 r1 =>
          have := rds_ints r1
          subst this
          refine ⟨_, m :: ns, rfl, .inl (.inl (s _ _ h1)), Nat.succ_pos _, fun k hk hle => ?_⟩
          have ek : k = lmax m ns := by
            obtain ⟨g1, g2⟩ := lmax_ge m ns
            have g3 : lmax m ns ∈ m :: ns := by
              rcases lmax_mem m ns with z | z
              · rw [z]; exact List.mem_cons_self
              · exact List.mem_cons_of_mem _ z
            have g4 := hle _ g3
            have g5 : k ≤ lmax m ns := by
              rcases List.mem_cons.mp hk with z | z
              · rw [z]; exact g1
              · exact g2 _ z
            omega
          rw [ek]
          exact h _ _ _ (Ext.refl s) (.int _)
    | exc x => rw [e] at h; exact h.elim
    | stuck => rw [e] at h; exact h.elim
  · exact h.elim
theorem ev_sum (hc : X.calm = true) (hm : X.mg "sum" = none) (ha : Ea X W [a] Fs) (hg : Gl X "sum" := by rfl) : Ev X W (.Call (.Name "sum" p) [a] [] pos) (eA dSum Fs) :=
  ev_A (fun h => pe_callB (cr_sum hc) hg hm (by decide +kernel) h (he := ha.se _ _ rfl) (hpl := ha.plt _ _ rfl _)) cd_sum cl_sum ha
theorem ev_minL (hc : X.calm = true) (hm : X.mg "min" = none) (ha : Ea X W [a] Fs) (hg : Gl X "min" := by rfl) : Ev X W (.Call (.Name "min" p) [a] [] pos) (eA dMinL Fs) :=
  ev_A (fun h => pe_callB (cr_min hc) hg hm (by decide +kernel) h (he := ha.se _ _ rfl) (hpl := ha.plt _ _ rfl _)) cd_minL cl_minL ha
theorem ev_maxL (hc : X.calm = true) (hm : X.mg "max" = none) (ha : Ea X W [a] Fs) (hg : Gl X "max" := by rfl) : Ev X W (.Call (.Name "max" p) [a] [] pos) (eA dMaxL Fs) :=
  ev_A (fun h => pe_callB (cr_max hc) hg hm (by decide +kernel) h (he := ha.se _ _ rfl) (hpl := ha.plt _ _ rfl _)) cd_maxL cl_maxL ha
end
@[simp] theorem x_sSetIx (i : Nat) (F G : EV) (ρ : Rho) : sSetIx i F G ρ = Out.of (F ρ) ρ fun d => Out.of (slO ρ[i]?) ρ fun ds => Out.of (G ρ >>= asI) ρ fun k => Out.of (oR (ixN ds.length k)) ρ fun j => .nx (ρ.set i (.o (.list (ds.set j d)))) := id rfl
@[simp] theorem x_sPopA (i : Nat) (A : EG) (ρ : Rho) : sPopA i A ρ = Out.of (slO ρ[i]?) ρ fun ds => Out.of (oR ds.getLast?) ρ fun d => Out.of (A d (ρ.set i (.o (.list ds.dropLast)))) ρ .nx := id rfl
@[simp] theorem x_sExt (i : Nat) (F : EV) (ρ : Rho) : sExt i F ρ = Out.of (slO ρ[i]?) ρ fun ds => Out.of (F ρ >>= asL) ρ fun es => Out.of (guardR (fits (ds.length + es.length)) ()) ρ fun _ => .nx (ρ.set i (.o (.list (ds ++ es)))) := id rfl
@[simp] theorem x_asL (ds : List D) : asL (.list ds) = .ok ds := id rfl
@[simp] theorem x_dSum (ns : List Int) : dSum [.list (ns.map .int)] = .ok (.int ns.sum) := by rw [dSum, ints_map]; rfl
end PQ

/-! PQ.21: try .. except X: (one or more, without a name) -/
namespace PQ
open PySem PySem.Spec PyProof.Rows L2

/-- of a handler: whose exceptions it takes, its suite -/
abbrev Hnd := List (Str × Bool) × ES
/-- a suite lets no exception out -/
def noExc : Out → Out
  | .exc _ _ => .stuck
  | o => o
@[simp] theorem noExc_nx (ρ : Rho) : noExc (.nx ρ) = .nx ρ := id rfl
@[simp] theorem noExc_ret (d : D) : noExc (.ret d) = .ret d := id rfl
@[simp] theorem noExc_bk (ρ : Rho) : noExc (.bk ρ) = .bk ρ := id rfl
@[simp] theorem noExc_ct (ρ : Rho) : noExc (.ct ρ) = .ct ρ := id rfl
def hnd : List Hnd → Exc → Rho → Out
  | [], x, ρ => .exc x ρ
  | (t, S) :: r, x, ρ => match t.lookup x.cls with
    | some true => noExc (S ρ)
    | some false => hnd r x ρ
    | none => .stuck
def Out.catch' (o : Out) (hs : List Hnd) : Out := match o with
  | .exc x ρ => hnd hs x ρ
  | o => o
def sTry (S : ES) (hs : List Hnd) : ES := fun ρ => (S ρ).catch' hs
@[simp] theorem x_sTry (S : ES) (hs : List Hnd) (ρ : Rho) : sTry S hs ρ = (S ρ).catch' hs := id rfl
@[simp] theorem catch_nx (ρ : Rho) (hs : List Hnd) : (Out.nx ρ).catch' hs = .nx ρ := id rfl
@[simp] theorem catch_ret (d : D) (hs : List Hnd) : (Out.ret d).catch' hs = .ret d := id rfl
@[simp] theorem catch_bk (ρ : Rho) (hs : List Hnd) : (Out.bk ρ).catch' hs = .bk ρ := id rfl
@[simp] theorem catch_ct (ρ : Rho) (hs : List Hnd) : (Out.ct ρ).catch' hs = .ct ρ := id rfl
@[simp] theorem catch_exc (x : Exc) (ρ : Rho) (hs : List Hnd) : (Out.exc x ρ).catch' hs = hnd hs x ρ := id rfl
section
variable {X : Cx} {W : WX} {Z0 H0 Z H : Hp} {σ : St} {ρ : Rho}
inductive Hs (X : Cx) : List ExceptHandler → List Hnd → Prop
  | nil : Hs X [] []
  | cons {x : Str} {c : Value} {tab : List (Str × Bool)} {S : ES} {b₀ : Stmt} {suite : List Stmt} {np pos' : Pos} {hds : List ExceptHandler} {l : List Hnd} (hc : Names X x c)
      (ht : ∀ n b, tab.lookup n = some b → ∀ C, X.mg n = some (.ref C) → PySem.W.exmOne X.K (.ref C) c = some b)
      (hsu : ∀ (a : Addr) (pn : List (Addr × Obj)), Ess (X.suite a pn) WF (b₀ :: suite) S) (r : Hs X hds l) : Hs X (.ExceptHandler (some (.Name x np)) none (b₀ :: suite) pos' :: hds) ((tab, S) :: l)
def wishTo (X : Cx) (suite : List Stmt) : Addr → Value → Option Addr → TS := fun a cls d D σ H => ∀ oe, Zc cls d oe → (∃ vs, oe.data = .fields vs) → ∀ pn, PSsat (X.suite a ((a, oe) :: pn)) suite D σ H
theorem Hs.l2 {hds : List ExceptHandler} {l : List Hnd} (h : Hs X hds l) (Wout : WX) : ∃ l', HdsOk X hds l' ∧ ∀ (x : Exc) (ρ : Rho) {Z0 H0 Z H : Hp} {σ : St} {D : Ends} {cls : Value} {dx : Option Addr}, Rep X.w X.K Z0 H0 Z H σ ρ → RX X.w X.K X.mg Z x cls dx → SPost X Wout Z0 H0 Z (hnd l x ρ) D → wMany X.K Wout D l' cls dx σ H := by
  induction h with
  | nil => exact ⟨[], .nil, fun x ρ Z0 H0 Z H σ D cls dx r rx q => q _ _ _ _ _ r (Same.refl _) rx⟩
  | @cons x c tab S b₀ suite np pos' hds l hc ht hsu r ih =>
    obtain ⟨l', h1, h2⟩ := ih
    refine ⟨(c, wishTo X (b₀ :: suite)) :: l', .cons hc (fun a oe cls d pn hz hv => ⟨fun pins s σ H D I q => q oe hz hv pn pins s I⟩) h1, fun x ρ Z0 H0 Z H σ D cls dx rp rx q => ?_⟩
    have hcls : ∃ C, X.mg x.cls = some (.ref C) ∧ cls = .ref C := by
      cases rx with
      | bare g => exact ⟨_, g, rfl⟩
      | fld g _ _ => exact ⟨_, g, rfl⟩
    obtain ⟨C, g, rfl⟩ := hcls
    unfold hnd at q
    cases e : tab.lookup x.cls with
    | none => rw [e] at q; exact q.elim
    | some b =>
      rw [e] at q
      refine ⟨b, ht _ _ e C g, fun hb a ha => ?_, fun hb => ?_⟩
      · subst hb
        intro oe hz hv pn
        refine (hsu a ((a, oe) :: pn)).go rp ?_
        have q : SPost X Wout Z0 H0 Z (noExc (S ρ)) D := q
        cases e2 : S ρ with
        | nx ρ2 => rw [e2] at q; exact q
        | ret d => rw [e2] at q; exact q
        | bk ρ2 => rw [e2] at q; exact q
        | ct ρ2 => rw [e2] at q; exact q
        | exc y ρ2 => rw [e2] at q; exact q.elim
        | stuck => rw [e2] at q; exact q.elim
      · subst hb
        exact h2 x ρ rp rx q
theorem es_try {body : List Stmt} {h₀ : ExceptHandler} {hds : List ExceptHandler} {pos : Pos} {S : ES} {l : List Hnd} (hs : X.stack = X.env :: X.outer) (hf : X.env.frame = some X.env.locals) (tk : Takes X W)
    (hb : ∀ (W' : WX) (pn : List (Addr × Obj)) (xe : Value → Shared → Prop), Takes (X.tr pn xe) W' → PassesOwn (model X.prog X.w) X.A X.env xe → Ess (X.tr pn xe) W' body S) (hh : Hs X (h₀ :: hds) l) :
    Es X W (.Try body (h₀ :: hds) [] [] pos) (sTry S l) := by
  obtain ⟨l', g1, g2⟩ := hh.l2 W
  refine ⟨fun {Z0 H0 Z H σ ρ En} r q => toAtS (ps_try_many (tb := fun W' D σ H => ∀ pn xe, Takes (X.tr pn xe) W' → PassesOwn (model X.prog X.w) X.A X.env xe → PSsat (X.tr pn xe) body D σ H) hs hf tk
    (fun W' pn xe t p => ⟨fun pins s σ H D I q => q pn xe t p pins s I⟩) g1) ?_⟩
  intro pn xe t p
  refine (hb _ pn xe t p).go r ?_
  unfold sTry at q
  cases e : S ρ with
  | nx ρ2 => rw [e] at q; exact q
  | ret d => rw [e] at q; exact q
  | bk ρ2 => rw [e] at q; exact q
  | ct ρ2 => rw [e] at q; exact q
  | stuck => rw [e] at q; exact q.elim
  | exc x ρ2 =>
    rw [e] at q
    exact fun cls dx σ' Z' H' r' s' rx => g2 x ρ2 r' rx (SPost.step q s')
/-- what an own class's clause takes -/
theorem exm_own {K : PySem.W.Frag} {S C : Addr} {b : Bool} (h1 : PySem.W.subIn K (.ref S) (.type "BaseException") = some true) (h2 : PySem.W.isClsIn K C = true) (h3 : PySem.W.typeIn K (.ref C) = some (.type "type")) (h5 : PySem.W.subIn K (.ref C) (.type "BaseException") = some true)
    (h4 : PySem.W.subIn K (.ref S) (.ref C) = some b) : PySem.W.exmOne K (.ref S) (.ref C) = some b := by
  have e1 : (PySem.W.subIn K (.ref C) (.type "BaseException") == some true) = true := by rw [h5] <;> rfl
  have e2 : ((PySem.W.clsIn K C).isSome && PySem.W.typeIn K (.ref C) == some (.type "type")) = true := by
    have h2' : (PySem.W.clsIn K C).isSome = true := h2
    rw [h2', h3] <;> rfl
  show (if (PySem.W.subIn K (.ref C) (.type "BaseException") == some true) = true then (if ((PySem.W.clsIn K C).isSome && PySem.W.typeIn K (.ref C) == some (.type "type")) = true then PySem.W.subIn K (.ref S) (.ref C) else none) else none) = some b
  rw [if_pos e1, if_pos e2]
  exact h4
end
section
variable {K : PySem.W.Frag} {mg : Str → Option Value}
/-- the classes that a clause is asked of -/
abbrev TabOk (K : PySem.W.Frag) (mg : Str → Option Value) (c : Value) (tab : List (Str × Bool)) : Prop := ∀ n b, tab.lookup n = some b → ∀ C, mg n = some (.ref C) → PySem.W.exmOne K (.ref C) c = some b
theorem tab_nil {c : Value} : TabOk K mg c [] := fun _ _ h => by cases h
theorem tab_cons {c : Value} {n : Str} {b : Bool} {C : Addr} {tab : List (Str × Bool)} (g : mg n = some (.ref C)) (e : PySem.W.exmOne K (.ref C) c = some b) (r : TabOk K mg c tab) : TabOk K mg c ((n, b) :: tab) := by
  intro m d h C' g'
  rw [List.lookup_cons] at h
  split at h
  · rename_i q
    have q : m = n := eq_of_beq q
    subst q
    cases h
    rw [g] at g'
    cases g'
    exact e
  · exact r m d h C' g'
end
end PQ

/-! PQ.22: dicts: what stands at a key -/
namespace PQ
open PySem PySem.Spec PyProof.Rows L2

/-! ### data -/
def sameK (a b : D) : Bool := decide (keyD a = keyD b)
def dFind (kvs : List (D × D)) (k : D) : Option D := (kvs.find? fun p => sameK p.1 k).map (·.2)
def dPutL (kvs : List (D × D)) (k v : D) : List (D × D) := if kvs.any (fun p => sameK p.1 k) then kvs.map (fun p => if sameK p.1 k then (p.1, v) else p) else kvs ++ [(k, v)]
def flatKey : D → Option Key
  | .int i => some (.inl i)
  | .str x => some (.inr x)
  | _ => none
def flatB (d : D) : Bool := (flatKey d).isSome
/-- a tuple that may be a key -/
def tupKB : D → Bool
  | .tuple ds => match keyDs ds with
    | some ks => decide (NestedKey.depthAll ks ≤ 7)
    | none => false
  | _ => false
def okKs (ks : List D) : Bool := ks.all flatB || ks.all tupKB
def okK (kvs : List (D × D)) (k : D) : Bool := okKs (k :: kvs.map (·.1))
def nkOf : Key → NestedKey
  | .inl i => .num i
  | .inr x => .text x
theorem nkOf_inj {a b : Key} : nkOf a = nkOf b ↔ a = b := by
  cases a <;> cases b <;> simp [nkOf]
theorem flat_keyD {d : D} {k : Key} (h : flatKey d = some k) : keyD d = some (nkOf k) := by
  cases d <;> simp [flatKey] at h <;> subst h <;> rfl
theorem flat_same {a b : D} {j k : Key} (ha : flatKey a = some j) (hb : flatKey b = some k) : sameK a b = decide (j = k) := by
  unfold sameK
  rw [flat_keyD ha, flat_keyD hb]
  simp [nkOf_inj]
theorem keyD_same {a b : D} {j k : NestedKey} (ha : keyD a = some j) (hb : keyD b = some k) : sameK a b = decide (j = k) := by
  unfold sameK
  rw [ha, hb]
  simp
theorem tupKB_key {d : D} (h : tupKB d = true) : ∃ ks, keyD d = some (.tup ks) ∧ (NestedKey.tup ks).depth ≤ 8 := by
  unfold tupKB at h
  split at h
  · split at h
    · rename_i ds ks hk
      refine ⟨ks, by simp [keyD, hk], ?_⟩
      have := of_decide_eq_true h
      show NestedKey.depthAll ks + 1 ≤ 8
      omega
    · cases h
  · cases h

section
variable {X : Cx} {pins : List (Addr × Obj)} {σ : St} {H Z : Hp} {s : Shared}
theorem nested_tup {h : Heap} {p : Addr} {its : Array Value} {ks : List NestedKey} (ht : IsTup h p its) (hk : NestedAll h ks its.toList) : NestedIs h (.tup ks) (.ref p) := by
  obtain ⟨o, h1, h2, n, h3⟩ := ht
  exact .tup h1 h2 h3 hk
mutual
theorem rd_nested (I : Inv X pins σ H s) (sz : Same Z H) : ∀ (v : V) (d : D) (u : Value) (nk : NestedKey), RD X.w X.K Z v d → RelV v u → keyD d = some nk → NestedIs s.heap nk u
  | _, _, u, nk, .non, r, e => by
    obtain rfl : u = Value.none := r
    simp [keyD] at e; subst e; exact .none
  | _, _, u, nk, .bl b, r, e => by
    obtain rfl : u = Value.bool b := r
    simp [keyD] at e; subst e; exact .bool rfl
  | _, _, u, nk, .int i, r, e => by
    obtain ⟨t, rfl⟩ := (show ∃ t, u = Value.int i t from r)
    simp [keyD] at e; subst e; exact .int _ _
  | _, _, u, nk, .str x, r, e => by
    obtain ⟨t, rfl⟩ := (show ∃ t, u = Value.str x t from r)
    simp [keyD] at e; subst e; exact .text _ _
  | _, _, u, nk, .lst _ _, r, e => by simp [keyD] at e
  | _, _, u, nk, .tup (a := a) (ds := ds) h rs, r, e => by
    obtain rfl : u = Value.ref a := r
    obtain ⟨its, rv, hl, hz⟩ := I.tuple (SqT.mono sz h)
    rw [keyD, Option.map_eq_some_iff] at e
    obtain ⟨ks, hk, rfl⟩ := e
    exact nested_tup hl (rds_nested I sz _ _ _ _ rs rv hk)
  | _, _, u, nk, .dct _ _ _ _ _ _ _, r, e => by simp [keyD] at e
theorem rds_nested (I : Inv X pins σ H s) (sz : Same Z H) : ∀ (vs : List V) (ds : List D) (us : List Value) (ks : List NestedKey), RDs X.w X.K Z vs ds → Vals vs us → keyDs ds = some ks → NestedAll s.heap ks us
  | _, _, us, ks, .nil, r, e => by
    cases r
    simp [keyDs] at e; subst e; exact .nil
  | _, _, us, ks, .cons (d := d) (ds := ds) h t, r, e => by
    cases r with
    | cons r1 rr =>
      simp only [keyDs, Option.bind_eq_some_iff, Option.map_eq_some_iff] at e
      obtain ⟨k, h1, ks, h2, rfl⟩ := e
      exact .cons (rd_nested I sz _ _ _ _ h r1 h1) (rds_nested I sz _ _ _ _ t rr h2)
end

/-- the dict at a, in the heap h -/
structure DictAt (w : World) (K : PySem.W.Frag) (Z : Hp) (h : Heap) (a : Addr) (kvs : List (D × D)) : Prop where
  at' : ∃ o es ep, h.get? a = some o ∧ o.ExactDict ∧ o.data = .dict es ep ∧ RDE w K Z es.toList kvs
  sys : (a == sysModules) = false
  len : kvs.length ≤ sizeLine
  nd : nodupK kvs
theorem raw_get (I : Inv X pins σ H s) {a : Addr} {o : Obj} (h : H a = some (rawH a o)) : s.heap.get? a = some o := (show ObjOk X.prog X.w H s.heap a (rawH a o) from I.hok a _ h).1
theorem k_get (I : Inv X pins σ H s) {a : Addr} {o : Obj} (h : X.K.lookup a = some o) : s.heap.get? a = some o := I.kIn _ _ h
theorem rd_dict (I : Inv X pins σ H s) (sz : Same Z H) {v : V} {kvs : List (D × D)} (r : RD X.w X.K Z v (.dict kvs)) : ∃ a, v = .ref a ∧ DictAt X.w X.K Z s.heap a kvs := by
  cases r with
  | dct h1 h2 h3 h4 h5 h6 h7 =>
    refine ⟨_, rfl, ⟨_, _, _, ?_, h3, h4, h7⟩, h2, h5, h6⟩
    rcases h1 with h1 | h1
    · exact raw_get I (sz _ _ h1)
    · exact k_get I h1

/-! ### keys that are ints and texts -/
abbrev FlatR (w : World) (K : PySem.W.Frag) (Z : Hp) : List (D × D) → List (Key × Value) → Prop := Paired fun p q => flatKey p.1 = some q.1 ∧ ∃ v, RelV v q.2 ∧ RD w K Z v p.2
abbrev TupR (w : World) (K : PySem.W.Frag) (Z : Hp) : List (D × D) → List (NestedKey × Addr × Value) → Prop := Paired fun p q => (keyD p.1 = some q.1 ∧ RD w K Z (.ref q.2.1) p.1) ∧ ∃ v, RelV v q.2.2 ∧ RD w K Z v p.2
theorem flat_val {w : World} {K : PySem.W.Frag} {u : Value} {v : V} {d : D} {k : Key} (r : RD w K Z v d) (rv : RelV v u) (hk : flatKey d = some k) {P : Program} : (mixKind P w).is k u = true := by
  cases r <;> simp [flatKey] at hk
  · subst hk; exact kV_is (k := .inl _) rv
  · subst hk; exact kV_is (k := .inr _) rv
theorem flat_list {P : Program} {w : World} {K : PySem.W.Frag} : ∀ {l : List DictEntry} {kvs : List (D × D)}, RDE w K Z l kvs → (∀ p ∈ kvs, flatB p.1 = true) →
    ∃ vs : List (Key × Value), Pairs (mixKind P w) l vs ∧ (∀ e ∈ l, ∃ k, (mixKind P w).is k e.key = true ∧ e.hash = (mixKind P w).hash k) ∧ FlatR w K Z kvs vs
  | _, _, .nil, _ => ⟨[], .nil, (fun _ h => nomatch h), .nil⟩
  | _, _, .cons (e := e) (kd := kd) (nk := nk) h1 h2 h3 h4 r1 r2 t, f => by
    obtain ⟨vs, p1, p2, p3⟩ := flat_list (P := P) t fun p hp => f p (List.mem_cons_of_mem _ hp)
    have hf := f _ (List.mem_cons_self)
    unfold flatB at hf
    obtain ⟨k, hk⟩ := Option.isSome_iff_exists.mp hf
    have hi : (mixKind P w).is k e.key = true := flat_val r1 h3 hk
    have hh : e.hash = (mixKind P w).hash k := by
      have q := flat_keyD hk
      rw [q] at h1
      cases h1
      rw [h2]
      cases k <;> rfl
    refine ⟨(k, e.val) :: vs, .cons hi rfl p1, fun e' he => ?_, .cons ⟨hk, _, h4, r2⟩ p3⟩
    rcases List.mem_cons.mp he with rfl | he
    · exact ⟨k, hi, hh⟩
    · exact p2 e' he
theorem FlatR.keys {w : World} {K : PySem.W.Frag} : ∀ {kvs : List (D × D)} {vs : List (Key × Value)}, FlatR w K Z kvs vs → kvs.map (fun p => keyD p.1) = (vs.map (·.1)).map fun k => some (nkOf k)
  | _, _, .nil => rfl
  | _, _, .cons h t => by rw [List.map_cons, List.map_cons, List.map_cons, FlatR.keys t, flat_keyD h.1]
theorem FlatR.nodup {w : World} {K : PySem.W.Frag} {kvs : List (D × D)} {vs : List (Key × Value)} (r : FlatR w K Z kvs vs) (h : nodupK kvs) : (vs.map (·.1)).Nodup := by
  unfold nodupK at h
  rw [r.keys] at h
  exact (List.pairwise_map.mp h).imp fun hab e => hab (by rw [e])
theorem FlatR.find {w : World} {K : PySem.W.Frag} {k : D} {kk : Key} (hk : flatKey k = some kk) : ∀ {kvs : List (D × D)} {vs : List (Key × Value)}, FlatR w K Z kvs vs →
    (∀ d, dFind kvs k = some d → ∃ u v, valueAt vs kk = some u ∧ RelV v u ∧ RD w K Z v d) ∧ (dFind kvs k = none → valueAt vs kk = none)
  | _, _, .nil => ⟨fun d h => by simp [dFind] at h, fun _ => rfl⟩
  | _, _, .cons (a := p) (b := q) h t => by
    obtain ⟨ih1, ih2⟩ := FlatR.find hk t
    obtain ⟨h1, v, rv, rd⟩ := h
    have e := flat_same h1 hk
    unfold dFind valueAt at ih1 ih2 ⊢
    rw [List.find?_cons, List.find?_cons, e]
    by_cases hq : q.1 = kk
    · simp only [hq, decide_true]
      exact ⟨fun d hd => ⟨_, v, rfl, rv, by cases hd; exact rd⟩, fun hn => by cases hn⟩
    · simp only [hq, decide_false]
      exact ⟨ih1, ih2⟩
theorem DictAt.flat {P : Program} {w : World} {K : PySem.W.Frag} {h : Heap} {a : Addr} {kvs : List (D × D)} (x : DictAt w K Z h a kvs) (f : ∀ p ∈ kvs, flatB p.1 = true) : ∃ vs, h.DictOf (mixKind P w) a vs ∧ FlatR w K Z kvs vs := by
  obtain ⟨o, es, ep, h1, h2, h3, h4⟩ := x.at'
  obtain ⟨vs, p1, p2, p3⟩ := flat_list (P := P) h4 f
  exact ⟨vs, ⟨o, es, ep, h1, h2, h3, fun e he => p2 e (by simpa using he), p1, p3.nodup x.nd⟩, p3⟩
/-! ### keys that are tuples -/
theorem tup_list {P : Program} {w : World} {K : PySem.W.Frag} : ∀ {l : List DictEntry} {kvs : List (D × D)}, RDE w K Z l kvs → (∀ p ∈ kvs, tupKB p.1 = true) →
    ∃ xs : List (NestedKey × Addr × Value), l = xs.map (entryOfKey (nestedKind P w)) ∧ TupR w K Z kvs xs
  | _, _, .nil, _ => ⟨[], rfl, .nil⟩
  | _, _, .cons (e := e) (kd := kd) (nk := nk) h1 h2 h3 h4 r1 r2 t, f => by
    obtain ⟨xs, p1, p3⟩ := tup_list (P := P) t fun p hp => f p (List.mem_cons_of_mem _ hp)
    have hf := f _ (List.mem_cons_self)
    cases r1 with
    | tup h rs =>
      rename_i p xs' ds
      obtain ⟨eh, ek, ev⟩ := e
      obtain rfl : ek = Value.ref p := h3
      refine ⟨(nk, p, ev) :: xs, ?_, .cons ⟨⟨h1, .tup h rs⟩, _, h4, r2⟩ p3⟩
      rw [List.map_cons, ← p1]
      have h2 : eh = nk.hash w := h2
      subst h2
      rfl
    | _ => simp [tupKB] at hf
theorem TupR.keys {w : World} {K : PySem.W.Frag} : ∀ {kvs : List (D × D)} {vs : List (NestedKey × Addr × Value)}, TupR w K Z kvs vs → kvs.map (fun p => keyD p.1) = (vs.map (·.1)).map some
  | _, _, .nil => rfl
  | _, _, .cons h t => by rw [List.map_cons, List.map_cons, List.map_cons, TupR.keys t, h.1.1]
theorem TupR.nodup {w : World} {K : PySem.W.Frag} {kvs : List (D × D)} {vs : List (NestedKey × Addr × Value)} (r : TupR w K Z kvs vs) (h : nodupK kvs) : (vs.map (·.1)).Nodup := by
  unfold nodupK at h
  rw [r.keys] at h
  exact (List.pairwise_map.mp h).imp fun hab e => hab (by rw [e])
theorem TupR.find {w : World} {K : PySem.W.Frag} {k : D} {kk : NestedKey} (hk : keyD k = some kk) : ∀ {kvs : List (D × D)} {vs : List (NestedKey × Addr × Value)}, TupR w K Z kvs vs →
    (∀ d, dFind kvs k = some d → ∃ b u v, atKey vs kk = some (b, u) ∧ RelV v u ∧ RD w K Z v d) ∧ (dFind kvs k = none → atKey vs kk = none)
  | _, _, .nil => ⟨fun d h => by simp [dFind] at h, fun _ => rfl⟩
  | _, _, .cons (a := p) (b := q) h t => by
    obtain ⟨ih1, ih2⟩ := TupR.find hk t
    obtain ⟨⟨h1, _⟩, v, rv, rd⟩ := h
    have e := keyD_same h1 hk
    unfold dFind atKey at ih1 ih2 ⊢
    rw [List.find?_cons, List.find?_cons, e]
    by_cases hq : q.1 = kk
    · simp only [hq, decide_true]
      exact ⟨fun d hd => ⟨_, _, v, rfl, rv, by cases hd; exact rd⟩, fun hn => by cases hn⟩
    · simp only [hq, decide_false]
      exact ⟨ih1, ih2⟩
theorem tup_is (I : Inv X pins σ H s) (sz : Same Z H) {p : Addr} {d : D} {nk : NestedKey} (r : RD X.w X.K Z (.ref p) d) (hk : keyD d = some nk) (ht : tupKB d = true) : (nestedKind X.prog X.w).is s.heap nk p := by
  obtain ⟨ks, h1, h2⟩ := tupKB_key ht
  rw [hk] at h1
  cases h1
  exact ⟨rd_nested I sz _ _ _ _ r rfl hk, h2⟩
theorem DictAt.tup (I : Inv X pins σ H s) (sz : Same Z H) {a : Addr} {kvs : List (D × D)} (x : DictAt X.w X.K Z s.heap a kvs) (f : ∀ p ∈ kvs, tupKB p.1 = true) : ∃ xs, s.heap.DictOfH (nestedKind X.prog X.w) a xs ∧ TupR X.w X.K Z kvs xs := by
  obtain ⟨o, es, ep, h1, h2, h3, h4⟩ := x.at'
  obtain ⟨xs, p1, p3⟩ := tup_list (P := X.prog) h4 f
  refine ⟨xs, ⟨o, es, ep, h1, h2, h3, p1, ?_, p3.nodup x.nd⟩, p3⟩
  have all : ∀ {kvs : List (D × D)} {xs : List (NestedKey × Addr × Value)}, TupR X.w X.K Z kvs xs → (∀ p ∈ kvs, tupKB p.1 = true) → ∀ q ∈ xs, (nestedKind X.prog X.w).is s.heap q.1 q.2.1 := by
    intro kvs xs t
    induction t with
    | nil => intro _ q hq; cases hq
    | cons h t ih =>
      intro f q hq
      rcases List.mem_cons.mp hq with rfl | hq
      · exact tup_is I sz h.1.2 h.1.1 (f _ List.mem_cons_self)
      · exact ih (fun p hp => f p (List.mem_cons_of_mem _ hp)) q hq
  exact all p3 f
/-- a value that may be a key of kvs: both ways -/
theorem okK_split {kvs : List (D × D)} {k : D} (h : okK kvs k = true) : ((∃ kk, flatKey k = some kk) ∧ ∀ p ∈ kvs, flatB p.1 = true) ∨ (tupKB k = true ∧ ∀ p ∈ kvs, tupKB p.1 = true) := by
  unfold okK okKs at h
  rw [Bool.or_eq_true, List.all_cons, List.all_cons, Bool.and_eq_true, Bool.and_eq_true, List.all_eq_true, List.all_eq_true] at h
  rcases h with ⟨h1, h2⟩ | ⟨h1, h2⟩
  · exact .inl ⟨Option.isSome_iff_exists.mp h1, fun p hp => h2 _ (List.mem_map_of_mem hp)⟩
  · exact .inr ⟨h1, fun p hp => h2 _ (List.mem_map_of_mem hp)⟩
end
end PQ

/-! PQ.23: dicts: d[k], k in d, d.get(k) -/
namespace PQ
open PySem PySem.Spec PyProof.Rows L2

section
variable {X : Cx} {pins : List (Addr × Obj)} {σ : St} {H Z : Hp} {s : Shared} {A : Around} {E : Value → Shared → Prop}
theorem DictAt.typeIs {w : World} {K : PySem.W.Frag} {a : Addr} {kvs : List (D × D)} (x : DictAt w K Z s.heap a kvs) : s.TypeIs (.ref a) "dict" := by
  obtain ⟨o, es, ep, h1, h2, _⟩ := x.at'
  exact ⟨o, h1, h2.1⟩
theorem DictAt.noDict {w : World} {K : PySem.W.Frag} {a : Addr} {kvs : List (D × D)} (x : DictAt w K Z s.heap a kvs) : ∀ b, Value.ref a = .ref b → ∃ ob, s.heap.get? b = some ob ∧ ob.dict = none := by
  intro b e
  cases e
  obtain ⟨o, es, ep, h1, h2, _⟩ := x.at'
  exact ⟨o, h1, h2.2.1⟩
theorem nroom (hu : A.units + 40 < cLine) : (nestedKind X.prog X.w).room A.in1 := by
  show A.units + 1 + 8 < cLine
  omega
/-- a key among the keys -/
structure KeyIs (X : Cx) (Z : Hp) (y : V) (k : D) (kvs : List (D × D)) : Prop where
  rd : RD X.w X.K Z y k
  ok : okK kvs k = true
/-- d[k], there -/
theorem dd_item {a : Addr} {kvs : List (D × D)} {y : V} {k d : D} {u : Value} {Q : Value → Shared → Prop} (hu : A.units + 40 < cLine) (I : Inv X pins σ H s) (sz : Same Z H) (x : DictAt X.w X.K Z s.heap a kvs) (hk : RD X.w X.K Z y k) (ok : okK kvs k = true) (ru : RelV y u)
    (hf : dFind kvs k = some d) (h : ∀ v w' s', Inv X pins σ H s' → RelV v w' → RD X.w X.K Z v d → Q w' s') : wpAny (model X.prog X.w) A (getItem (.ref a) u) Q E s := by
  rcases okK_split ok with ⟨⟨kk, h1⟩, h2⟩ | ⟨h1, h2⟩
  · obtain ⟨vs, dd, rel⟩ := x.flat (P := X.prog) h2
    obtain ⟨w', v, hw, rv, rd⟩ := (rel.find h1).1 _ hf
    exact wpAny_getItem_of (flat_val hk ru h1) dd.mapOf hw (h v w' _ (I.tok _) rv rd)
  · obtain ⟨xs, dd, rel⟩ := x.tup I sz h2
    obtain ⟨ks, hk1, _⟩ := tupKB_key h1
    obtain ⟨b, w', v, hw, rv, rd⟩ := (rel.find hk1).1 _ hf
    cases hk with
    | tup hh rs =>
      cases (show u = Value.ref _ from ru)
      exact wpAny_getItem_heap (nroom (X := X) hu) (tup_is I sz (.tup hh rs) hk1 h1) dd hw (h v w' _ (I.tok _) rv rd)
    | _ => simp [tupKB] at h1
/-- k in d, k not in d -/
theorem dd_in {a : Addr} {kvs : List (D × D)} {y : V} {k : D} {u : Value} {Q : Value → Shared → Prop} (neg : Bool) (hu : A.units + 40 < cLine) (I : Inv X pins σ H s) (sz : Same Z H) (x : DictAt X.w X.K Z s.heap a kvs) (hk : RD X.w X.K Z y k) (ok : okK kvs k = true) (ru : RelV y u)
    (h : ∀ s', Inv X pins σ H s' → Q (.bool (if neg then !(dFind kvs k).isSome else (dFind kvs k).isSome)) s') : wpAny (model X.prog X.w) A (compareOp (if neg then .NotIn else .In) u (.ref a)) Q E s := by
  rcases okK_split ok with ⟨⟨kk, h1⟩, h2⟩ | ⟨h1, h2⟩
  · obtain ⟨vs, dd, rel⟩ := x.flat (P := X.prog) h2
    have e : (valueAt vs kk).isSome = (dFind kvs k).isSome := by
      obtain ⟨f1, f2⟩ := rel.find h1
      cases hd : dFind kvs k with
      | none => rw [f2 hd]; rfl
      | some d => obtain ⟨u', v, e, _⟩ := f1 d hd; rw [e]; rfl
    cases neg with
    | false => exact wpAny_in_of (flat_val hk ru h1) x.sys dd.mapOf (by rw [e]; exact h _ (I.tok _))
    | true => exact wpAny_notIn_of (flat_val hk ru h1) x.sys dd.mapOf (by rw [e]; exact h _ (I.tok _))
  · obtain ⟨xs, dd, rel⟩ := x.tup I sz h2
    obtain ⟨ks, hk1, _⟩ := tupKB_key h1
    have e : (atKey xs (.tup ks)).isSome = (dFind kvs k).isSome := by
      obtain ⟨f1, f2⟩ := rel.find hk1
      cases hd : dFind kvs k with
      | none => rw [f2 hd]; rfl
      | some d => obtain ⟨b, u', v, e, _⟩ := f1 d hd; rw [e]; rfl
    cases hk with
    | tup hh rs =>
      cases (show u = Value.ref _ from ru)
      cases neg with
      | false => exact wpAny_in_heap (nroom (X := X) hu) (tup_is I sz (.tup hh rs) hk1 h1) x.sys dd (by rw [e]; exact h _ (I.tok _))
      | true => exact wpAny_notIn_heap (nroom (X := X) hu) (tup_is I sz (.tup hh rs) hk1 h1) x.sys dd (by rw [e]; exact h _ (I.tok _))
    | _ => simp [tupKB] at h1
/-- d.get(k), d.get(k, x) -/
theorem dd_get {a : Addr} {kvs : List (D × D)} {y : V} {k : D} {u : Value} {more : List (Value × V × D)} {Q : Value → Shared → Prop} (hu : A.units + 40 < cLine) (I : Inv X pins σ H s) (sz : Same Z H) (x : DictAt X.w X.K Z s.heap a kvs) (hk : RD X.w X.K Z y k) (ok : okK kvs k = true) (ru : RelV y u)
    (hm : more = [] ∨ ∃ r v d, more = [(r, v, d)] ∧ RelV v r ∧ RD X.w X.K Z v d)
    (h : ∀ v w' s', Inv X pins σ H s' → RelV v w' → RD X.w X.K Z v ((dFind kvs k).getD (match more with | [] => .none | (_, _, d) :: _ => d)) → Q w' s') : wpAny (model X.prog X.w) A (call (.builtin "dict.get") (.ref a :: u :: more.map (·.1))) Q E s := by
  rcases okK_split ok with ⟨⟨kk, h1⟩, h2⟩ | ⟨h1, h2⟩
  · obtain ⟨vs, dd, rel⟩ := x.flat (P := X.prog) h2
    obtain ⟨f1, f2⟩ := rel.find h1
    rcases hm with rfl | ⟨r, v, d, rfl, rv, rd⟩
    · refine call_meetsIn PySem.F.slot_dict_get dd.typeIs PySem.F.entry_dict_get (PySem.F.args_dict_get_2 _ _) (meets_dict_get (mixKind X.prog X.w) a (flat_val hk ru h1) x.sys) ⟨_, dd.mapOf, ?_⟩
      cases hd : dFind kvs k with
      | none => rw [f2 hd]; rw [hd] at h; exact h .non _ _ (I.tok _) rfl .non
      | some d => obtain ⟨u', v, e, rv, rd⟩ := f1 d hd; rw [e]; rw [hd] at h; exact h v _ _ (I.tok _) rv rd
    · refine call_meetsIn PySem.F.slot_dict_get dd.typeIs PySem.F.entry_dict_get (PySem.F.args_dict_get_3 _ _ _) (meets_dict_get_default (mixKind X.prog X.w) a (flat_val hk ru h1) x.sys r) ⟨_, dd.mapOf, ?_⟩
      cases hd : dFind kvs k with
      | none => rw [f2 hd]; rw [hd] at h; exact h v _ _ (I.tok _) rv rd
      | some d => obtain ⟨u', v, e, rv, rd⟩ := f1 d hd; rw [e]; rw [hd] at h; exact h v _ _ (I.tok _) rv rd
  · obtain ⟨xs, dd, rel⟩ := x.tup I sz h2
    obtain ⟨ks, hk1, _⟩ := tupKB_key h1
    obtain ⟨f1, f2⟩ := rel.find hk1
    cases hk with
    | @tup aa xs' ds hh rs =>
      cases (show u = Value.ref _ from ru)
      have ti := tup_is I sz (.tup hh rs) hk1 h1
      rcases hm with rfl | ⟨r, v, d, rfl, rv, rd⟩
      · refine call_meetsIn PySem.F.slot_dict_get dd.typeIs PySem.F.entry_dict_get (PySem.F.args_dict_get_2 _ _) (meetsH_dict_get (nestedKind X.prog X.w) a _ x.sys) ⟨nroom (X := X) hu, _, xs, ti, dd, ?_⟩
        cases hd : dFind kvs (.tuple ds) with
        | none => rw [f2 hd]; rw [hd] at h; exact h .non _ _ (I.tok _) rfl .non
        | some d => obtain ⟨b, u', v, e, rv, rd⟩ := f1 d hd; rw [e]; rw [hd] at h; exact h v _ _ (I.tok _) rv rd
      · refine call_meetsIn PySem.F.slot_dict_get dd.typeIs PySem.F.entry_dict_get (PySem.F.args_dict_get_3 _ _ _) (meetsH_dict_get_default (nestedKind X.prog X.w) a _ x.sys r) ⟨nroom (X := X) hu, _, xs, ti, dd, ?_⟩
        cases hd : dFind kvs (.tuple ds) with
        | none => rw [f2 hd]; rw [hd] at h; exact h v _ _ (I.tok _) rv rd
        | some d => obtain ⟨b, u', v, e, rv, rd⟩ := f1 d hd; rw [e]; rw [hd] at h; exact h v _ _ (I.tok _) rv rd
    | _ => simp [tupKB] at h1
end

/-! ### the rules -/
section
variable {X : Cx} {W : WX} {a b c e f : Expr} {es rest : List Expr} {pos p apos : Pos} {F G I : EV} {T U : ET} {Fs : EA}
theorem hroom (hu : HasRoom X) : X.A.units + 40 < cLine := by
  have h : X.A.units + 100 < cLine := hu
  omega
def rDIx (X : Cx) : R2 := fun x y H Q => ∃ (Z : Hp) (kvs : List (D × D)) (k d : D), Same Z H ∧ RD X.w X.K Z x (.dict kvs) ∧ RD X.w X.K Z y k ∧ okK kvs k = true ∧ dFind kvs k = some d ∧ ∀ v, RD X.w X.K Z v d → Q v H
theorem ix_dict (hu : HasRoom X) : IxR X (rDIx X) := by
  intro value slice pins s σ H x y v u Q I rx ry h hs
  obtain ⟨Z, kvs, k, d, sz, rd, rk, ok, hf, q⟩ := h
  obtain ⟨a, rfl, da⟩ := rd_dict I sz rd
  obtain rfl : v = Value.ref a := rx
  have hT := da.typeIs
  unfold subscriptTail
  refine wpAny_bind ?_
  rw [getitemInPython_of_ne hT.not_modules]
  refine wpAny_bind (wpAny_specialOf hT PySem.F.slot_dict_getitem.lookup ?_)
  have fin : wpAny (model X.prog X.w) X.A (subscripted slice false (.ref a) u) (fun r s₃ => wpAny (model X.prog X.w) X.A (letTemporaryGo value (.ref a) r >>= fun _ => pure r) (EP X pins σ Q) X.xe s₃) X.xe s := by
    rw [hs]
    exact wpAny_operating (dd_item (hroom hu) I sz da rk ok ry hf fun v' w' s' I' rv' rd' => wpAny_bind (wpAny_letTemporaryGo (wpAny_pure ⟨v', H, I', rv', q v' rd'⟩)))
  first
    | exact wpAny_pure (wpAny_bind fin)
    | exact wpAny_bind (wpAny_pure (wpAny_bind fin))
    | exact wpAny_bind fin
/-- a[b] of dicts, too -/
def dIxD : D → D → R D
  | .dict kvs, k => match okK kvs k, dFind kvs k with
    | true, some d => .ok d
    | _, _ => .stuck
  | x, y => dIx x y
theorem cl_ixD (x y : D) : (dIxD x y).clean := by
  unfold dIxD
  split
  · split <;> trivial
  · exact cl_ix _ _
theorem od_ixD : OpD X (fun x y H Q => rIx X.K x y H Q ∨ rDIx X x y H Q) dIxD := by
  intro Z H x y dx dy Q s rx ry h
  unfold dIxD at h
  split at h
  · split at h
    · exact .inr ⟨Z, _, _, _, s, rx, ry, by assumption, by assumption, fun v rv => h v Z H (Ext.refl s) rv⟩
    · exact h.elim
  · exact .inl (od_ix Z H x y _ _ Q s rx ry h)
theorem ev_ixD (hu : HasRoom X) (ha : Ev X W a F) (hb : Ev X W b G) (hs : PlainIx b := by exact fun _ _ => rfl) : Ev X W (.Subscript a b pos) (e2 dIxD F G) := ev_2 (fun p q => pe_ix (ix_seq.or (ix_dict hu)) p q hs) od_ixD cl_ixD ha hb
def rDIn (X : Cx) (neg : Bool) : R2 := fun x y H Q => ∃ (Z : Hp) (kvs : List (D × D)) (k : D), Same Z H ∧ RD X.w X.K Z y (.dict kvs) ∧ RD X.w X.K Z x k ∧ okK kvs k = true ∧ Q (.bl (if neg then !(dFind kvs k).isSome else (dFind kvs k).isSome)) H
theorem op_dIn (hu : HasRoom X) (neg : Bool) : OpR X (compareOp (if neg then .NotIn else .In)) (rDIn X neg) := by
  intro pins s σ H x y v u Q I rx ry h
  obtain ⟨Z, kvs, k, sz, rd, rk, ok, q⟩ := h
  obtain ⟨a, rfl, da⟩ := rd_dict I sz rd
  obtain rfl : u = Value.ref a := ry
  exact dd_in neg (hroom hu) I sz da rk ok rx fun s' I' => ⟨.bl _, H, I', rfl, q⟩
def dInD : D → D → R D
  | k, .dict kvs => guardR (okK kvs k) (.bool (dFind kvs k).isSome)
  | x, y => dIn x y
def dNotInD : D → D → R D
  | k, .dict kvs => guardR (okK kvs k) (.bool (!(dFind kvs k).isSome))
  | x, y => dNotIn x y
theorem cl_inD (x y : D) : (dInD x y).clean := by
  unfold dInD
  split
  · exact clean_guard _ _
  · exact cl_in _ _
theorem cl_notInD (x y : D) : (dNotInD x y).clean := by
  unfold dNotInD
  split
  · exact clean_guard _ _
  · exact cl_notIn _ _
theorem OpR.or {f : Value → Value → Sem Value} {r r' : R2} (h : OpR X f r) (h' : OpR X f r') : OpR X f (fun x y H Q => r x y H Q ∨ r' x y H Q) := by
  intro pins s σ H x y v u Q I rx ry q
  rcases q with q | q
  · exact h pins s σ H x y v u Q I rx ry q
  · exact h' pins s σ H x y v u Q I rx ry q
theorem od_inD : OpD X (fun x y H Q => rInP X.K false x y H Q ∨ rDIn X false x y H Q) dInD := by
  intro Z H x y dx dy Q s rx ry h
  unfold dInD at h
  split at h
  · obtain ⟨ok, h⟩ := h.guard
    exact .inr ⟨Z, _, _, s, ry, rx, ok, h _ Z H (Ext.refl s) (.bl _)⟩
  · exact .inl (od_in Z H x y _ _ Q s rx ry h)
theorem od_notInD : OpD X (fun x y H Q => rInP X.K true x y H Q ∨ rDIn X true x y H Q) dNotInD := by
  intro Z H x y dx dy Q s rx ry h
  unfold dNotInD at h
  split at h
  · obtain ⟨ok, h⟩ := h.guard
    exact .inr ⟨Z, _, _, s, ry, rx, ok, h _ Z H (Ext.refl s) (.bl _)⟩
  · exact .inl (od_notIn Z H x y _ _ Q s rx ry h)
theorem ev_inD (hu : HasRoom X) (ha : Ev X W a F) (hb : Ev X W b G) (hm : behindInMarks .In b = false := by rfl) : Ev X W (.Compare a [.In] [b] pos) (e2 dInD F G) :=
  ev_2 (fun p q => pe_cmpR (OpR.or (op_inP hu) (op_dIn hu false)) p q hm) od_inD cl_inD ha hb
theorem ev_notInD (hu : HasRoom X) (ha : Ev X W a F) (hb : Ev X W b G) (hm : behindInMarks .NotIn b = false := by rfl) : Ev X W (.Compare a [.NotIn] [b] pos) (e2 dNotInD F G) :=
  ev_2 (fun p q => pe_cmpR (OpR.or (op_notInP hu) (op_dIn hu true)) p q hm) od_notInD cl_notInD ha hb
end
end PQ

/-! PQ.24: methods; d.get(k), d.get(k, x) -/
namespace PQ
open PySem PySem.Spec PyProof.Rows L2

/-- the value x is of the type T, without a dict of its own -/
def TyOk (X : Cx) (T : String) (x : V) (H : Hp) : Prop := ∀ (pins : List (Addr × Obj)) (σ : St) (s : Shared) (v : Value), Inv X pins σ H s → RelV x v → s.TypeIs v T ∧ ∀ a, v = .ref a → ∃ ob, s.heap.get? a = some ob ∧ ob.dict = none
def tBMT (X : Cx) (T : String) (r : V → List V → Hp → VK → Prop) (to : TE) (t : TA) : TE := fun σ H Q => to σ H fun x H1 => TyOk X T x H1 ∧ t σ H1 fun xs H2 => r x xs H2 Q
section
variable {X : Cx} {W : WX} {a b c e f o : Expr} {es rest : List Expr} {pos p apos cpos : Pos} {F G I : EV} {T U : ET} {Fs : EA} {to : TE} {t : TA} {name : Str} {Ty id : String} {r : V → List V → Hp → VK → Prop} {Z H : Hp}
theorem pe_bmT (pa : PlainAttrs Ty) (slot : Slot Ty name id) (hty : typeOf (.builtin id) = pure (.type "method_descriptor")) (hm : MtR X id r) (ho : PE X o to) (ha : PA X (e :: es) t)
    (hs : starEach (e :: es) X.env = (false, eval e X.env) :: starEach es X.env) (hplain : (backTo cpos (starEach es X.env)).any (·.1) = false)
    (hbase : attributeBase o name X.env (eval o X.env) = eval o X.env)
    (hfew : ((backTo cpos (starEach (e :: es) X.env)).all (fun x => !x.1) && (backToKw cpos (keywordEach [] X.env)).all (fun x => x.1.isSome)
      && decide ((e :: es).length + ([] : List Keyword).length + (if ([] : List Keyword).isEmpty then 0 else 1) < 30)) = true)
    (hline : (apos.endLine == cpos.line) = true) :
    PE X (.Call (.Attribute o name apos) (e :: es) [] cpos) (tBMT X Ty r to t) := by
  refine ⟨fun pins s σ H Q I h => ?_⟩
  refine wpAny_Call_method_late hbase hfew hline rfl (thn (ho.run pins s σ H _ I h) fun v s1 ⟨x, H1, I1, r1, ty, q1⟩ => ?_)
  obtain ⟨h1, h2⟩ := ty pins σ s1 v I1 r1
  refine ⟨Ty, id, pa, slot, hty, h1, h2, ?_⟩
  have hA := ha.run cpos pins s1 σ H1 _ I1 q1
  rw [hs] at hA ⊢
  refine Calls.callWith_builtin (by show (false || (backTo cpos (starEach es X.env)).any (·.1)) = false; rw [hplain] <;> rfl) (Calls.evalArgs_plain ?_)
  exact thn hA fun us s2 ⟨vs, H2, I2, r2, q2⟩ => hm pins s2 σ H2 x vs v us Q I2 r1 r2 q2
theorem rd_tyOk (sz : Same Z H) {v : V} {d : D} (h : RD X.w X.K Z v d) (ht : tyName d = "str" ∨ tyName d = "dict" ∨ tyName d = "list") : TyOk X (tyName d) v H := by
  intro pins σ s u I r
  cases h with
  | str x =>
    obtain ⟨t, rfl⟩ := (show ∃ t, u = Value.str x t from r)
    exact ⟨typeIs_str s x t, fun _ e => nomatch e⟩
  | dct h1 h2 h3 h4 h5 h6 h7 =>
    obtain ⟨a, e, da⟩ := rd_dict I sz (.dct h1 h2 h3 h4 h5 h6 h7)
    cases e
    obtain rfl : u = Value.ref _ := r
    exact ⟨da.typeIs, da.noDict⟩
  | lst h1 r1 =>
    obtain rfl : u = Value.ref _ := r
    obtain ⟨its, _, pl, _⟩ := I.list (.inl (.inl (sz _ _ h1)))
    refine ⟨pl.isList.typeIs, fun a e => ?_⟩
    cases e
    obtain ⟨o, n, e, c, hd, _⟩ := pl
    exact ⟨o, e, hd⟩
  | _ => simp [tyName] at ht
/-- what a method computes -/
def MeD (X : Cx) (Ty : String) (r : V → List V → Hp → VK → Prop) (f : D → List D → R D) : Prop := ∀ (Z H : Hp) (x : V) (d : D) (xs : List V) (ds : List D) (Q : VK), Same Z H → RD X.w X.K Z x d → RDs X.w X.K Z xs ds → tyName d = Ty → Post0 (f d ds) (QV X Z H Q) → r x xs H Q
def eM (Ty : String) (f : D → List D → R D) (F : EV) (Fs : EA) : EV := fun ρ => F ρ >>= fun d => if tyName d = Ty then Fs ρ >>= fun ds => f d ds else .stuck
theorem ev_M {f : D → List D → R D} (pa : PlainAttrs Ty) (slot : Slot Ty name id) (hty : typeOf (.builtin id) = pure (.type "method_descriptor")) (hm : MtR X id r) (ht : Ty = "str" ∨ Ty = "dict" ∨ Ty = "list") (hf : MeD X Ty r f) (cl : ∀ d ds, (f d ds).clean)
    (ho : Ev X W o F) (ha : Ea X W (e :: es) Fs) (hbase : attributeBase o name X.env (eval o X.env) = eval o X.env := by rfl)
    (hfew : ((backTo cpos (starEach (e :: es) X.env)).all (fun x => !x.1) && (backToKw cpos (keywordEach [] X.env)).all (fun x => x.1.isSome)
      && decide ((e :: es).length + ([] : List Keyword).length + (if ([] : List Keyword).isEmpty then 0 else 1) < 30)) = true := by rfl)
    (hline : (apos.endLine == cpos.line) = true := by rfl) : Ev X W (.Call (.Attribute o name apos) (e :: es) [] cpos) (eM Ty f F Fs) := by
  refine ⟨fun {Z0 H0 Z H σ ρ Q} r0 q => toAt (pe_bmT pa slot hty hm pe_at pa_at (ha.se _ _ rfl) (ha.plt _ _ rfl _) hbase hfew hline) ?_⟩
  refine ho.go r0 (q.bind.mono fun d q v Z1 H1 x1 r1 => ?_)
  by_cases hd : tyName d = Ty
  · rw [if_pos hd] at q
    refine ⟨hd ▸ rd_tyOk x1.zh r1 (hd.symm ▸ ht), ?_⟩
    refine ha.go (r0.step x1) ((q.bind.step x1).mono fun ds q vs Z2 H2 x2 r2 => ?_)
    refine hf Z2 H2 v d vs ds Q x2.zh (r1.mono x2.zz) r2 hd ?_
    have p := q.to0 (cl d ds)
    cases hfd : f d ds with
    | ok z => rw [hfd] at p; exact fun v3 Z3 H3 x3 r3 => p v3 Z3 H3 ((x1.trans x2).trans x3) r3
    | exc z => rw [hfd] at p; exact p.elim
    | stuck => rw [hfd] at p; exact p.elim
  · rw [if_neg hd] at q
    exact q.elim

/-! ### d.get(k), d.get(k, x) -/
def rDGetM (X : Cx) : V → List V → Hp → VK → Prop := fun x xs H Q => ∃ (Z : Hp) (kvs : List (D × D)) (k : D) (y : V), Same Z H ∧ RD X.w X.K Z x (.dict kvs) ∧ RD X.w X.K Z y k ∧ okK kvs k = true ∧
  ((xs = [y] ∧ ∀ v, RD X.w X.K Z v ((dFind kvs k).getD .none) → Q v H) ∨ ∃ z d, xs = [y, z] ∧ RD X.w X.K Z z d ∧ ∀ v, RD X.w X.K Z v ((dFind kvs k).getD d) → Q v H)
theorem mt_dget (hu : HasRoom X) : MtR X "dict.get" (rDGetM X) := by
  intro pins s σ H x xs v us Q I rx rs h
  obtain ⟨Z, kvs, k, y, sz, rd, rk, ok, h⟩ := h
  obtain ⟨a, rfl, da⟩ := rd_dict I sz rd
  obtain rfl : v = Value.ref a := rx
  rcases h with ⟨rfl, q⟩ | ⟨z, d, rfl, rz, q⟩
  · cases rs with
    | cons r1 rr =>
      cases rr
      exact dd_get (more := []) (hroom hu) I sz da rk ok r1 (.inl rfl) fun v' w' s' I' rv rd' => ⟨v', H, I', rv, q _ rd'⟩
  · cases rs with
    | cons r1 rr =>
      cases rr with
      | cons r2 rr =>
        cases rr
        exact dd_get (more := [(_, z, d)]) (hroom hu) I sz da rk ok r1 (.inr ⟨_, _, _, rfl, r2, rz⟩) fun v' w' s' I' rv rd' => ⟨v', H, I', rv, q _ rd'⟩
def dGetM : D → List D → R D
  | .dict kvs, [k] => guardR (okK kvs k) ((dFind kvs k).getD .none)
  | .dict kvs, [k, d] => guardR (okK kvs k) ((dFind kvs k).getD d)
  | _, _ => .stuck
theorem cl_getM (d : D) (ds : List D) : (dGetM d ds).clean := by
  unfold dGetM
  split <;> first | exact clean_guard _ _ | trivial
theorem me_get : MeD X "dict" (rDGetM X) dGetM := by
  intro Z H x d xs ds Q sz rd rs _ h
  unfold dGetM at h
  split at h
  · obtain ⟨ok, h⟩ := h.guard
    obtain ⟨y, rfl, ry⟩ := rds1 rs
    exact ⟨Z, _, _, y, sz, rd, ry, ok, .inl ⟨rfl, fun v rv => h v Z H (Ext.refl sz) rv⟩⟩
  · obtain ⟨ok, h⟩ := h.guard
    cases rs with
    | cons ry rr =>
      obtain ⟨z, rfl, rz⟩ := rds1 rr
      exact ⟨Z, _, _, _, sz, rd, ry, ok, .inr ⟨z, _, rfl, rz, fun v rv => h v Z H (Ext.refl sz) rv⟩⟩
  · exact h.elim
theorem ev_get (hu : HasRoom X) (ho : Ev X W o F) (ha : Ea X W (e :: es) Fs) (hbase : attributeBase o "get" X.env (eval o X.env) = eval o X.env := by rfl)
    (hfew : ((backTo cpos (starEach (e :: es) X.env)).all (fun x => !x.1) && (backToKw cpos (keywordEach [] X.env)).all (fun x => x.1.isSome)
      && decide ((e :: es).length + ([] : List Keyword).length + (if ([] : List Keyword).isEmpty then 0 else 1) < 30)) = true := by rfl)
    (hline : (apos.endLine == cpos.line) = true := by rfl) : Ev X W (.Call (.Attribute o "get" apos) (e :: es) [] cpos) (eM "dict" dGetM F Fs) :=
  ev_M PySem.F.plainAttrs_dict PySem.F.slot_dict_get PySem.F.type_dict_get (mt_dget hu) (.inr (.inl rfl)) me_get cl_getM ho ha hbase hfew hline
end
end PQ

/-! PQ.25: own dicts: {}, x[k] = v -/
namespace PQ
open PySem PySem.Spec PyProof.Rows L2

section
variable {w : World} {K : PySem.W.Frag} {Z : Hp} {P : Program}
theorem FlatR.snoc : ∀ {kvs : List (D × D)} {vs : List (Key × Value)} {p : D × D} {q : Key × Value}, FlatR w K Z kvs vs → (flatKey p.1 = some q.1 ∧ ∃ v, RelV v q.2 ∧ RD w K Z v p.2) → FlatR w K Z (kvs ++ [p]) (vs ++ [q])
  | _, _, _, _, .nil, h => .cons h .nil
  | _, _, _, _, .cons a t, h => .cons a (FlatR.snoc t h)
theorem FlatR.anyK {k : D} {kk : Key} (hk : flatKey k = some kk) : ∀ {kvs : List (D × D)} {vs : List (Key × Value)}, FlatR w K Z kvs vs → (kvs.any fun p => sameK p.1 k) = (vs.any fun q => decide (q.1 = kk))
  | _, _, .nil => rfl
  | _, _, .cons h t => by rw [List.any_cons, List.any_cons, FlatR.anyK hk t, flat_same h.1 hk]
theorem FlatR.repl {k d : D} {kk : Key} {r : Value} {v : V} (hk : flatKey k = some kk) (rv : RelV v r) (rd : RD w K Z v d) : ∀ {kvs : List (D × D)} {vs : List (Key × Value)}, FlatR w K Z kvs vs →
    FlatR w K Z (kvs.map fun p => if sameK p.1 k then (p.1, d) else p) (vs.map fun q => if q.1 = kk then (q.1, r) else q)
  | _, _, .nil => .nil
  | _, _, .cons (a := p) (b := q) h t => by
    rw [List.map_cons, List.map_cons]
    refine .cons ?_ (FlatR.repl hk rv rd t)
    rw [flat_same h.1 hk]
    by_cases e : q.1 = kk
    · simp only [e, decide_true, if_true]
      exact ⟨by rw [h.1, e], v, rv, rd⟩
    · simp only [e, decide_false, if_false]
      exact h
theorem FlatR.put {k d : D} {kk : Key} {r : Value} {v : V} (hk : flatKey k = some kk) (rv : RelV v r) (rd : RD w K Z v d) {kvs : List (D × D)} {vs : List (Key × Value)} (h : FlatR w K Z kvs vs) : FlatR w K Z (dPutL kvs k d) (stored vs kk r) := by
  unfold dPutL stored
  rw [h.anyK hk]
  split
  · exact h.repl hk rv rd
  · exact h.snoc ⟨hk, v, rv, rd⟩
theorem keyIs_rel {k : Key} {u : Value} (h : (mixKind P w).is k u = true) : RelV (kV k) u := by
  rcases keyIs_shape (show keyIs k u = true from h) with ⟨i, t, rfl, rfl⟩ | ⟨x, t, rfl, rfl⟩
  · exact ⟨t, rfl⟩
  · exact ⟨t, rfl⟩
theorem flatKey_rd {d : D} {k : Key} (h : flatKey d = some k) : RD w K Z (kV k) d := by
  cases d <;> simp [flatKey] at h <;> subst h
  · exact .int _
  · exact .str _
theorem flat_back : ∀ {l : List DictEntry} {kvs : List (D × D)} {vs : List (Key × Value)}, Pairs (mixKind P w) l vs → (∀ e ∈ l, ∃ k, (mixKind P w).is k e.key = true ∧ e.hash = (mixKind P w).hash k) → FlatR w K Z kvs vs → RDE w K Z l kvs
  | _, _, _, .nil, _, r => by cases r; exact .nil
  | _, _, _, .cons (e := e) (kv := kv) h1 h2 t, hh, r => by
    cases r with
    | @cons p _ _ _ hr rr =>
      obtain ⟨hk, v, rv, rd⟩ := hr
      obtain ⟨k', hi, ha⟩ := hh e List.mem_cons_self
      have ek : k' = kv.1 := (mixKind P w).inj _ _ _ hi h1
      subst ek
      have hash : e.hash = (nkOf kv.1).hash w := by rw [ha]; cases kv.1 <;> rfl
      obtain ⟨kd, vd⟩ := p
      exact .cons (flat_keyD hk) hash (keyIs_rel h1) (by rw [h2]; exact rv) (flatKey_rd hk) rd (flat_back t (fun e' he => hh e' (List.mem_cons_of_mem _ he)) rr)
theorem FlatR.nodupK {kvs : List (D × D)} {vs : List (Key × Value)} (r : FlatR w K Z kvs vs) (h : (vs.map (·.1)).Nodup) : nodupK kvs := by
  unfold PQ.nodupK
  rw [r.keys]
  refine List.pairwise_map.mpr (h.imp fun hab e => hab ?_)
  exact nkOf_inj.mp (Option.some.inj e)
theorem DictAt.ofFlat {h : Heap} {a : Addr} {kvs : List (D × D)} {vs : List (Key × Value)} (sys : (a == sysModules) = false) (len : kvs.length ≤ sizeLine) (dd : h.DictOf (mixKind P w) a vs) (r : FlatR w K Z kvs vs) : DictAt w K Z h a kvs := by
  obtain ⟨o, es, ep, h1, h2, h3, h4, h5, h6⟩ := dd
  exact ⟨⟨o, es, ep, h1, h2, h3, flat_back (P := P) h5 (fun e he => h4 e (by simpa using he)) r⟩, sys, len, r.nodupK h6⟩
/-! tuples -/
theorem TupR.snoc : ∀ {kvs : List (D × D)} {vs : List (NestedKey × Addr × Value)} {p : D × D} {q : NestedKey × Addr × Value}, TupR w K Z kvs vs → ((keyD p.1 = some q.1 ∧ RD w K Z (.ref q.2.1) p.1) ∧ ∃ v, RelV v q.2.2 ∧ RD w K Z v p.2) → TupR w K Z (kvs ++ [p]) (vs ++ [q])
  | _, _, _, _, .nil, h => .cons h .nil
  | _, _, _, _, .cons a t, h => .cons a (TupR.snoc t h)
theorem TupR.anyK {k : D} {kk : NestedKey} (hk : keyD k = some kk) : ∀ {kvs : List (D × D)} {vs : List (NestedKey × Addr × Value)}, TupR w K Z kvs vs → (kvs.any fun p => sameK p.1 k) = (atKey vs kk).isSome
  | _, _, .nil => rfl
  | _, _, .cons (a := p) (b := q) h t => by
    rw [List.any_cons, TupR.anyK hk t, keyD_same h.1.1 hk]
    unfold atKey
    rw [List.find?_cons]
    by_cases e : q.1 = kk
    · simp [e]
    · simp [e]
theorem TupR.repl {k d : D} {kk : NestedKey} {r : Value} {v : V} (hk : keyD k = some kk) (rv : RelV v r) (rd : RD w K Z v d) : ∀ {kvs : List (D × D)} {vs : List (NestedKey × Addr × Value)}, TupR w K Z kvs vs →
    TupR w K Z (kvs.map fun p => if sameK p.1 k then (p.1, d) else p) (vs.map (putAt kk r))
  | _, _, .nil => .nil
  | _, _, .cons (a := p) (b := q) h t => by
    rw [List.map_cons, List.map_cons]
    refine .cons ?_ (TupR.repl hk rv rd t)
    rw [keyD_same h.1.1 hk]
    unfold putAt
    by_cases e : q.1 = kk
    · simp only [e, decide_true, if_true]
      exact ⟨⟨by rw [h.1.1, e], h.1.2⟩, v, rv, rd⟩
    · simp only [e, decide_false, if_false]
      exact h
theorem TupR.put {k d : D} {kk : NestedKey} {b : Addr} {r : Value} {v : V} (hk : keyD k = some kk) (rk : RD w K Z (.ref b) k) (rv : RelV v r) (rd : RD w K Z v d) {kvs : List (D × D)} {vs : List (NestedKey × Addr × Value)} (h : TupR w K Z kvs vs) : TupR w K Z (dPutL kvs k d) (storedH vs kk b r) := by
  unfold dPutL storedH
  rw [h.anyK hk]
  split
  · exact h.repl hk rv rd
  · exact h.snoc ⟨⟨hk, rk⟩, v, rv, rd⟩
theorem tup_back : ∀ {kvs : List (D × D)} {xs : List (NestedKey × Addr × Value)}, TupR w K Z kvs xs → RDE w K Z (xs.map (entryOfKey (nestedKind P w))) kvs
  | _, _, .nil => .nil
  | _, _, .cons (a := p) (b := q) h t => by
    obtain ⟨⟨h1, h2⟩, v, rv, rd⟩ := h
    obtain ⟨kd, vd⟩ := p
    rw [List.map_cons]
    exact .cons (kv := .ref q.2.1) h1 rfl rfl rv h2 rd (tup_back t)
theorem TupR.nodupK {kvs : List (D × D)} {vs : List (NestedKey × Addr × Value)} (r : TupR w K Z kvs vs) (h : (vs.map (·.1)).Nodup) : nodupK kvs := by
  unfold PQ.nodupK
  rw [r.keys]
  exact List.pairwise_map.mpr (h.imp fun hab e => hab (Option.some.inj e))
theorem DictAt.ofTup {h : Heap} {a : Addr} {kvs : List (D × D)} {xs : List (NestedKey × Addr × Value)} (sys : (a == sysModules) = false) (len : kvs.length ≤ sizeLine) (dd : h.DictOfH (nestedKind P w) a xs) (r : TupR w K Z kvs xs) : DictAt w K Z h a kvs := by
  obtain ⟨o, es, ep, h1, h2, h3, h4, h5, h6⟩ := dd
  exact ⟨⟨o, es, ep, h1, h2, h3, by rw [h4]; exact tup_back r⟩, sys, len, r.nodupK h6⟩
theorem length_dPutL (kvs : List (D × D)) (k d : D) : (dPutL kvs k d).length ≤ kvs.length + 1 := by
  unfold dPutL
  split <;> simp
theorem okK_put {kvs : List (D × D)} {k d : D} (h : okK kvs k = true) : ∀ k', okK (dPutL kvs k d) k' = okK kvs k' ∨ True := fun _ => .inr trivial
end

section
variable {X : Cx} {pins : List (Addr × Obj)} {σ : St} {H Z : Hp} {s : Shared} {A : Around} {E : Value → Shared → Prop}
/-- d[k] = v -/
theorem dd_set {a : Addr} {kvs : List (D × D)} {y v : V} {k d : D} {u r : Value} {Q : Unit → Shared → Prop} (hu : A.units + 40 < cLine) (I : Inv X pins σ H s) (sz : Same Z H) (x : DictAt X.w X.K Z s.heap a kvs) (hk : RD X.w X.K Z y k) (ok : okK kvs k = true) (ru : RelV y u)
    (rv : RelV v r) (rd : RD X.w X.K Z v d) (hl : kvs.length < sizeLine)
    (h : ∀ h' t, DictAt X.w X.K Z h' a (dPutL kvs k d) → Heap.SameBut a s.heap h' → Q () { s with heap := h', toks := t }) : wpAny (model X.prog X.w) A (setItem (.ref a) u r) Q E s := by
  have hl' : (dPutL kvs k d).length ≤ sizeLine := by have := length_dPutL kvs k d; omega
  rcases okK_split ok with ⟨⟨kk, h1⟩, h2⟩ | ⟨h1, h2⟩
  · obtain ⟨vs, dd, rel⟩ := x.flat (P := X.prog) h2
    have hz : vs.length ≤ sizeLine := by rw [← Paired.length rel]; exact x.len
    exact wpAny_setItem_pairs (hsz := hz) (flat_val hk ru h1) dd fun h' dd' hs => h h' _ (.ofFlat x.sys hl' dd' (rel.put h1 rv rd)) hs
  · obtain ⟨xs, dd, rel⟩ := x.tup I sz h2
    obtain ⟨ks, hk1, _⟩ := tupKB_key h1
    have hz : xs.length ≤ sizeLine := by rw [← Paired.length rel]; exact x.len
    cases hk with
    | tup hh rs =>
      cases (show u = Value.ref _ from ru)
      exact wpAny_setItem_heap (hsz := hz) (nroom (X := X) hu) (tup_is I sz (.tup hh rs) hk1 h1) dd fun h' dd' hs => h h' _ (.ofTup x.sys hl' dd' (rel.put hk1 (.tup hh rs) rv rd)) hs
    | _ => simp [tupKB] at h1
theorem DictAt.obj {w : World} {K : PySem.W.Frag} {h : Heap} {a : Addr} {kvs : List (D × D)} (x : DictAt w K Z h a kvs) : ∃ o, h.get? a = some o := by
  obtain ⟨o, _, _, h1, _⟩ := x.at'
  exact ⟨o, h1⟩
theorem DictAt.own {w : World} {K : PySem.W.Frag} {h : Heap} {a : Addr} {kvs : List (D × D)} {o : Obj} (x : DictAt w K Z h a kvs) (ho : h.get? a = some o) (hz : Z a = none) {H : Hp} (hH : H a = some (rawH a o)) : Own w K Z H a (.dict kvs) := by
  obtain ⟨o', es, ep, h1, h2, h3, h4⟩ := x.at'
  rw [ho] at h1
  cases h1
  exact .dct hz hH x.sys h2 h3 x.len x.nd h4
theorem Own.dat (I : Inv X pins σ H s) {a : Addr} {kvs : List (D × D)} (h : Own X.w X.K Z H a (.dict kvs)) : DictAt X.w X.K Z s.heap a kvs := by
  cases h with
  | dct h0 h1 h2 h3 h4 h5 h6 h7 => exact ⟨⟨_, _, _, raw_get I h1, h3, h4, h7⟩, h2, h5, h6⟩
theorem inv_raw {h' : Heap} {t' : Nat} {a : Addr} {o o' : Obj} (I : Inv X pins σ H s) (hH : H a = some (rawH a o)) (hs : Heap.SameBut a s.heap h') (he : h'.get? a = some o') :
    Inv X pins σ (upd H a (rawH a o')) { s with heap := h', toks := t' } :=
  I.write (x := a) (e := a) (by rw [hH]; trivial) (.inl rfl) (fun b q hb z => (hs.2 b hb).trans z) ⟨_, he⟩ ⟨he, ⟨_, he⟩, fun _ _ q k => k _ q⟩
/-- o[i] = v, o a dict of one's own -/
def rSetDD (X : Cx) : TSet := fun o i v H Q => ∃ (Z : Hp) (a : Addr) (kvs : List (D × D)) (k d : D), Same Z H ∧ o = .ref a ∧ Own X.w X.K Z H a (.dict kvs) ∧ RD X.w X.K Z i k ∧ RD X.w X.K Z v d ∧ okK kvs k = true ∧ kvs.length < sizeLine ∧
  ∀ o', Own X.w X.K Z (upd H a (rawH a o')) a (.dict (dPutL kvs k d)) → Q (upd H a (rawH a o'))
theorem set_dictD (hu : HasRoom X) : PSet X (rSetDD X) := by
  intro pins s σ H o i v ov iv u Q I ro ri rv h
  obtain ⟨Z, a, kvs, k, d, sz, rfl, ow, rk, rd, ok, hl, q⟩ := h
  cases (show ov = Value.ref a from ro)
  refine dd_set (hroom hu) I sz (ow.dat I) rk ok ri rv rd hl fun h' t x hs => ?_
  obtain ⟨o', ho'⟩ := x.obj
  cases ow with
  | dct h0 h1 h2 h3 h4 h5 h6 h7 =>
    exact ⟨_, inv_raw I h1 hs ho', q o' (x.own ho' h0 upd_same)⟩
end

section
variable {X : Cx} {W : WX} {Z0 H0 Z H : Hp} {σ : St} {ρ : Rho}
variable {st : Stmt} {sts : List Stmt} {e a b c ie tg : Expr} {pos p p1 p2 : Pos} {F G : EV} {T : ET} {S S' : ES} {es : List Expr} {Fs : EA}
def slDct : Option Sl → R (List (D × D))
  | some (.o (.dict kvs)) => .ok kvs
  | _ => .stuck
/-- x[k] = v, x a dict -/
def sSetD (i : Nat) (F G : EV) : ES := fun ρ => Out.of (F ρ) ρ fun d => Out.of (slDct ρ[i]?) ρ fun kvs => Out.of (G ρ) ρ fun k => Out.of (guardR (okK kvs k && fits (kvs.length + 1)) kvs) ρ fun _ => .nx (ρ.set i (.o (.dict (dPutL kvs k d))))
theorem es_setD (hu : HasRoom X) (i : Nat) {x : Str} (h : Ev X W e F) (hg : Ev X W ie G) (hi : X.N[i]? = some x := by rfl) (hv : Vis X.env.scope x := by first | exact Or.inl rfl | exact Or.inr (Or.inl rfl) | exact Or.inr (Or.inr rfl)) (hd : (x == ("__debug__" : Str)) = false := by decide)
    (hcd : (x == ("__classdict__" : Str)) = false := by decide)
    (ha : ∀ v, assign (.Subscript (.Name x p1) ie p2) X.env v = (do
      let ov ← holding [v] (eval (.Name x p1) X.env)
      let iv ← holding [v, ov] (eval ie X.env)
      standAt p2
      holding [v, ov, iv] (setItem ov iv v)
      release [v, ov, iv] []) := by intro _; rfl)
    (hs : swapsWithSole [.Subscript (.Name x p1) ie p2] e pos.line X.env = pure false := by rfl) (hw : swappedStores [.Subscript (.Name x p1) ie p2] e X.env = pure none := by rfl)
    (h1 : (assignEach [.Subscript (.Name x p1) ie p2] X.env).map (·.2) = [assign (.Subscript (.Name x p1) ie p2) X.env] := by rfl) : Es X W (.Assign [.Subscript (.Name x p1) ie p2] e pos) (sSetD i F G) := by
  refine ⟨fun {Z0 H0 Z H σ ρ En} r q => toAtS (ps_asg pe_at (pg_sub (pe_var hi hv hd hcd) pe_at (set_dictD hu) ha) hs hw h1) ?_⟩
  refine h.go r ((q.post r).mono fun d q v Z1 H1 x1 r1 => ?_)
  cases hr : ρ[i]? with
  | none => rw [hr] at q; exact q.elim
  | some s =>
    rw [hr] at q
    cases s with
    | o dd =>
      cases dd with
      | dict kvs =>
        have q : SPost X W Z0 H0 Z (Out.of (G ρ) ρ fun k => Out.of (guardR (okK kvs k && fits (kvs.length + 1)) kvs) ρ fun _ => .nx (ρ.set i (.o (.dict (dPutL kvs k d))))) En := q
        obtain ⟨l, hl, ho, h0⟩ := r.getO hr
        refine ⟨_, hl, ?_⟩
        refine hg.go (r.step x1) (((q.post r).step x1).mono fun k q u Z2 H2 x2 r2 => ?_)
        cases hok : okK kvs k && fits (kvs.length + 1) with
        | false => unfold guardR at q; rw [hok] at q; exact q.elim
        | true =>
          rw [guardR_of hok] at q
          rw [Bool.and_eq_true] at hok
          have x12 := x1.trans x2
          have ow := ho.ext x12
          have hfl := fits_le hok.2
          refine ⟨Z2, l, kvs, k, d, x12.zh, rfl, ow, r2, r1.mono x2.zz, hok.1, by omega, fun o' ow' => ?_⟩
          exact q _ _ _ (Rep.mutate (r.step x12) hr hl h0 ow.zno ow') x12.zz
      | _ => exact q.elim
    | _ => exact q.elim
/-- {} -/
def eDict0 : EV := fun _ => .ok (.dict [])
theorem eo_dict0 : Eo X W (.Dict [] [] pos) eDict0 := by
  refine ⟨fun {Z0 H0 Z H σ ρ Q} r q pins s I => ?_⟩
  have q : ∀ a Z' H', Ext Z H Z' H' → H a = none → Own X.w X.K Z' H' a (.dict []) → Q (.ref a) H' := q
  have hn := I.hok.fresh (Nat.le_refl s.heap.objs.size)
  have hg : (s.heap.push { cls := .type "dict", data := .dict #[] }).get? s.heap.objs.size = some { cls := .type "dict", data := .dict #[] } := Heap.get?_push_size _ rfl
  refine wpAny_Dict_empty ⟨.ref s.heap.objs.size, upd H s.heap.objs.size (rawH s.heap.objs.size { cls := .type "dict", data := .dict #[] }),
    I.laid (a := s.heap.objs.size) (t' := s.toks) (fun _ _ q => Heap.get?_push_of_some _ q) (Nat.le_refl _) ⟨hg, ⟨_, hg⟩, fun _ _ q k => k _ q⟩, rfl, ?_⟩
  refine q _ Z _ (Ext.newO r.zh hn) hn (.dct (zfree r.zh hn) upd_same ?_ ⟨rfl, rfl, rfl⟩ rfl (Nat.zero_le _) List.nodup_nil .nil)
  exact beq_eq_false_iff_ne.mpr (Ne.symm (Nat.ne_of_lt I.big))
end
end PQ

/-! PQ.26: x.join(y), x.split(y) -/
namespace PQ
open PySem PySem.Spec PyProof.Rows L2

def strsOf : List D → Option (List Str)
  | [] => some []
  | .str x :: ds => (strsOf ds).map (x :: ·)
  | _ :: _ => none
def joinOk (a : Str) (ys : List Str) : Bool := decide ((ys.map (·.length)).sum + ys.length * a.length ≤ 16777216)
def joinD (a : Str) (ds : List D) : R D := match strsOf ds with
  | some ys => guardR (joinOk a ys) (.str (Txt.join a ys))
  | none => .stuck
def dJoin : D → List D → R D
  | .str a, [.list ds] => joinD a ds
  | .str a, [.tuple ds] => joinD a ds
  | _, _ => .stuck
theorem cl_joinD (a : Str) (ds : List D) : (joinD a ds).clean := by
  unfold joinD
  split
  · exact clean_guard _ _
  · trivial
theorem cl_join (d : D) (ds : List D) : (dJoin d ds).clean := by
  unfold dJoin
  split <;> first | exact cl_joinD _ _ | trivial
theorem strsOf_rds {w : World} {K : PySem.W.Frag} {Z : Hp} : ∀ {xs : List V} {ds : List D} {ys : List Str}, RDs w K Z xs ds → strsOf ds = some ys → xs = ys.map V.str
  | _, _, _, .nil, h => by simp [strsOf] at h; subst h; rfl
  | _, _, _, .cons r t, h => by
    cases r <;> simp [strsOf] at h
    obtain ⟨zs, h1, rfl⟩ := h
    rw [List.map_cons, strsOf_rds t h1]
section
variable {X : Cx} {W : WX} {a b c e f o : Expr} {es rest : List Expr} {pos p apos cpos : Pos} {F G I : EV} {T U : ET} {Fs : EA}
abbrev rJoinT (X : Cx) : V → List V → Hp → VK → Prop := fun x xs H Q => ∃ a p, ∃ ys : List Str, x = .str a ∧ xs = [.ref p] ∧ (SqL X.K H p (ys.map V.str) ∨ SqT X.K H p (ys.map V.str)) ∧
    (ys.map (·.length)).sum + ys.length * a.length ≤ 16777216 ∧ Q (.str (Txt.join a ys)) H
theorem me_join : MeD X "str" (rJoinT X) dJoin := by
  intro Z H x d xs ds Q sz rd rs _ h
  unfold dJoin at h
  split at h
  · cases rd
    obtain ⟨v, rfl, r0⟩ := rds1 rs
    unfold joinD at h
    split at h
    · rename_i ys hy
      obtain ⟨hc, h⟩ := h.guard
      cases r0 with
      | lst h1 r1 =>
        have e := strsOf_rds r1 hy
        subst e
        exact ⟨_, _, ys, rfl, rfl, .inl (.inl (.inl (sz _ _ h1))), of_decide_eq_true hc, h _ _ _ (Ext.refl sz) (.str _)⟩
    · exact h.elim
  · cases rd
    obtain ⟨v, rfl, r0⟩ := rds1 rs
    unfold joinD at h
    split at h
    · rename_i ys hy
      obtain ⟨hc, h⟩ := h.guard
      cases r0 with
      | tup h1 r1 =>
        have e := strsOf_rds r1 hy
        subst e
        exact ⟨_, _, ys, rfl, rfl, .inr (SqT.mono sz h1), of_decide_eq_true hc, h _ _ _ (Ext.refl sz) (.str _)⟩
    · exact h.elim
  · exact h.elim
theorem ev_join (ho : Ev X W o F) (ha : Ea X W (e :: es) Fs) (hbase : attributeBase o "join" X.env (eval o X.env) = eval o X.env := by rfl)
    (hfew : ((backTo cpos (starEach (e :: es) X.env)).all (fun x => !x.1) && (backToKw cpos (keywordEach [] X.env)).all (fun x => x.1.isSome)
      && decide ((e :: es).length + ([] : List Keyword).length + (if ([] : List Keyword).isEmpty then 0 else 1) < 30)) = true := by rfl)
    (hline : (apos.endLine == cpos.line) = true := by rfl) : Ev X W (.Call (.Attribute o "join" apos) (e :: es) [] cpos) (eM "str" dJoin F Fs) :=
  ev_M PySem.F.plainAttrs_str PySem.F.slot_str_join PySem.F.type_str_join mt_join (.inl rfl) me_join cl_join ho ha hbase hfew hline
end
end PQ

/-! PQ.27: dict displays -/
namespace PQ
open PySem PySem.Spec PyProof.Rows L2

/-- the pairs of a display -/
def evPs : List (EV × EV) → Rho → R (List (D × D))
  | [], _ => .ok []
  | (F, G) :: r, ρ => F ρ >>= fun k => G ρ >>= fun v => evPs r ρ >>= fun ps => .ok ((k, v) :: ps)
def mkDict (ps : List (D × D)) : List (D × D) := ps.foldl (fun acc p => dPutL acc p.1 p.2) []
def eDisp (Fps : List (EV × EV)) : EV := fun ρ => evPs Fps ρ >>= fun ps => guardR (okKs (ps.map (·.1))) (.dict (mkDict ps))
inductive EdL (X : Cx) (W : WX) : List (Option Expr) → List Expr → List (EV × EV) → Prop
  | nil : EdL X W [] [] []
  | cons {k v : Expr} {F G : EV} {ks : List (Option Expr)} {vs : List Expr} {r : List (EV × EV)} : Ev X W k F → Ev X W v G → EdL X W ks vs r → EdL X W (some k :: ks) (v :: vs) ((F, G) :: r)
inductive RDP (w : World) (K : PySem.W.Frag) (Z : Hp) : List (V × V) → List (D × D) → Prop
  | nil : RDP w K Z [] []
  | cons {p : V × V} {q : D × D} {ps : List (V × V)} {qs : List (D × D)} : RD w K Z p.1 q.1 → RD w K Z p.2 q.2 → RDP w K Z ps qs → RDP w K Z (p :: ps) (q :: qs)
theorem RDP.mono {w : World} {K : PySem.W.Frag} {Z Z' : Hp} (s : Same Z Z') : ∀ {ps : List (V × V)} {qs : List (D × D)}, RDP w K Z ps qs → RDP w K Z' ps qs
  | _, _, .nil => .nil
  | _, _, .cons a b t => .cons (a.mono s) (b.mono s) (RDP.mono s t)
theorem RDP.length {w : World} {K : PySem.W.Frag} {Z : Hp} : ∀ {ps : List (V × V)} {qs : List (D × D)}, RDP w K Z ps qs → ps.length = qs.length
  | _, _, .nil => rfl
  | _, _, .cons _ _ t => congrArg (· + 1) (RDP.length t)
section
variable {X : Cx} {W : WX} {pos : Pos}
theorem edl_pps : ∀ {ks : List (Option Expr)} {vs : List Expr} {Fps : List (EV × EV)}, EdL X W ks vs Fps → ∃ trs, PPs X pos ks vs trs ∧ ∀ {Z0 H0 Z H : Hp} {σ : St} {ρ : Rho} {Q : List (V × V) → Hp → Prop}, Rep X.w X.K Z0 H0 Z H σ ρ →
    Post X W Z H σ (evPs Fps ρ) (fun qs => ∀ ps Z' H', Ext Z H Z' H' → RDP X.w X.K Z' ps qs → Q ps H') → tPairs trs σ H Q
  | _, _, _, .nil => ⟨[], pps_nil, fun r q => q _ _ _ (Ext.refl r.zh) .nil⟩
  | _, _, _, .cons hk hv t => by
    obtain ⟨trs, h1, h2⟩ := edl_pps t
    refine ⟨_, pps_cons pe_at pe_at h1, fun {Z0 H0 Z H σ ρ Q} r q => ?_⟩
    refine hk.go r (q.bind.mono fun dk q vk Z1 H1 x1 r1 => ?_)
    refine hv.go (r.step x1) ((q.bind.step x1).mono fun dv q vv Z2 H2 x2 r2 => ?_)
    refine h2 (r.step (x1.trans x2)) ((q.bind.step (x1.trans x2)).mono fun qs q ps Z3 H3 x3 r3 => ?_)
    exact q _ Z3 H3 ((x1.trans x2).trans x3) (.cons (r1.mono (x2.zz.trans x3.zz)) (r2.mono x3.zz) r3)
theorem carries_flat {P : Program} {w : World} {K : PySem.W.Frag} {Z : Hp} : ∀ {ps : List (V × V)} {qs : List (D × D)} {ws : List (Value × Value)}, RDP w K Z ps qs → VV ps ws → (∀ q ∈ qs, flatB q.1 = true) → ∃ rs : List (Key × Value), Carries (mixKind P w) ws rs ∧ FlatR w K Z qs rs
  | _, _, _, .nil, r, _ => by cases r; exact ⟨[], trivial, .nil⟩
  | _, _, _, .cons (q := q) a b t, r, f => by
    cases r with
    | cons h rr =>
      obtain ⟨rs, c, fr⟩ := carries_flat (P := P) t rr fun q hq => f q (List.mem_cons_of_mem _ hq)
      obtain ⟨k, hk⟩ := Option.isSome_iff_exists.mp (f _ List.mem_cons_self)
      exact ⟨(k, _) :: rs, ⟨flat_val a h.1 hk, rfl, c⟩, .cons ⟨hk, _, h.2, b⟩ fr⟩
theorem FlatR.merge {w : World} {K : PySem.W.Frag} {Z : Hp} : ∀ {more : List (D × D)} {rs : List (Key × Value)} {kvs : List (D × D)} {vs : List (Key × Value)}, FlatR w K Z more rs → FlatR w K Z kvs vs → FlatR w K Z (more.foldl (fun acc p => dPutL acc p.1 p.2) kvs) (merged vs rs)
  | _, _, _, _, .nil, h => h
  | _, _, _, _, .cons a t, h => by
    obtain ⟨hk, v, rv, rd⟩ := a
    have z := FlatR.merge t (h.put hk rv rd)
    exact z
theorem carries_tup {P : Program} {h : Heap} {w : World} {K : PySem.W.Frag} {Z : Hp} (hi : ∀ (p : Addr) (d : D) (nk : NestedKey), RD w K Z (.ref p) d → keyD d = some nk → tupKB d = true → (nestedKind P w).is h nk p) :
    ∀ {ps : List (V × V)} {qs : List (D × D)} {ws : List (Value × Value)}, RDP w K Z ps qs → VV ps ws → (∀ q ∈ qs, tupKB q.1 = true) → ∃ rs : List (NestedKey × Addr × Value), CarriesH (nestedKind P w) h ws rs ∧ TupR w K Z qs rs
  | _, _, _, .nil, r, _ => by cases r; exact ⟨[], trivial, .nil⟩
  | _, _, _, .cons (p := p) (q := q) a b t, r, f => by
    cases r with
    | cons hh rr =>
      obtain ⟨rs, c, fr⟩ := carries_tup hi t rr fun q hq => f q (List.mem_cons_of_mem _ hq)
      have ht := f _ List.mem_cons_self
      obtain ⟨ks, hk, _⟩ := tupKB_key ht
      obtain ⟨h1, h2⟩ := hh
      obtain ⟨kv, vv⟩ := p
      obtain ⟨kd, vd⟩ := q
      rename_i b0 _ _
      obtain ⟨uk, uv⟩ := b0
      cases a with
      | tup e rs' =>
        cases (show uk = Value.ref _ from h1)
        exact ⟨(_, _, _) :: rs, ⟨rfl, rfl, hi _ _ _ (.tup e rs') hk ht, c⟩, .cons ⟨⟨hk, .tup e rs'⟩, _, h2, b⟩ fr⟩
      | _ => simp [tupKB] at ht
theorem TupR.merge {w : World} {K : PySem.W.Frag} {Z : Hp} : ∀ {more : List (D × D)} {rs : List (NestedKey × Addr × Value)} {kvs : List (D × D)} {vs : List (NestedKey × Addr × Value)}, TupR w K Z more rs → TupR w K Z kvs vs → TupR w K Z (more.foldl (fun acc p => dPutL acc p.1 p.2) kvs) (storedAllH vs rs)
  | _, _, _, _, .nil, h => h
  | _, _, _, _, .cons a t, h => by
    obtain ⟨⟨hk, rk⟩, v, rv, rd⟩ := a
    have z := TupR.merge t (h.put hk rk rv rd)
    exact z
theorem length_mkDict : ∀ (more kvs : List (D × D)), (more.foldl (fun acc p => dPutL acc p.1 p.2) kvs).length ≤ kvs.length + more.length
  | [], kvs => by simp
  | p :: r, kvs => by
    have h1 := length_mkDict r (dPutL kvs p.1 p.2)
    have h2 := length_dPutL kvs p.1 p.2
    rw [List.foldl_cons, List.length_cons]
    omega
theorem evPs_len : ∀ (Fps : List (EV × EV)) (ρ : Rho) (qs : List (D × D)), evPs Fps ρ = .ok qs → qs.length = Fps.length
  | [], ρ, qs, h => by cases h; rfl
  | (F, G) :: r, ρ, qs, h => by
    unfold evPs at h
    cases h1 : F ρ with
    | ok k =>
      rw [h1] at h
      cases h2 : G ρ with
      | ok v =>
        rw [h2] at h
        cases h3 : evPs r ρ with
        | ok ps =>
          rw [h3] at h
          cases h
          rw [List.length_cons, List.length_cons, evPs_len r ρ ps h3]
        | exc x => rw [h3] at h; cases h
        | stuck => rw [h3] at h; cases h
      | exc x => rw [h2] at h; cases h
      | stuck => rw [h2] at h; cases h
    | exc x => rw [h1] at h; cases h
    | stuck => rw [h1] at h; cases h
theorem DictTup_walk {prog : Program} {w : World} {A : Around} {E : Value → Shared → Prop} {s : Shared} {env : Env} {keys : List (Option Expr)} {values : List Expr} {Q : Value → Shared → Prop} (hu : (nestedKind prog w).room A)
    (hall : keys.all (·.isSome) = true) (hl : keys.length = values.length) (h0 : keys ≠ []) (hlen : keys.length ≤ 15)
    (h : wpAny (model prog w) A (evalPairs (pairTrees keys values env pos)) (fun vs s₁ => ∃ ps, CarriesH (nestedKind prog w) s₁.heap vs ps ∧ s₁.heap.DictOfH (nestedKind prog w) s.heap.objs.size [] ∧
      ∀ h' tk, h'.DictOfH (nestedKind prog w) s.heap.objs.size (storedAllH [] ps) → Heap.SameBut s.heap.objs.size s₁.heap h' → Q (.ref s.heap.objs.size) { s₁ with heap := h', toks := tk }) E
      { s with heap := s.heap.push { cls := .type "dict", data := .dict #[] } }) :
    wpAny (model prog w) A (eval (.Dict keys values pos) env) Q E s := by
  have hn := pairTrees_length keys values env pos hall hl
  have hne : pairTrees keys values env pos ≠ [] := by
    intro he
    rw [he] at hn
    exact h0 (List.length_eq_zero_iff.mp hn.symm)
  rw [arm_eval_Dict, zip_pairTrees keys values env pos hall hl, dictDisplay_pairs _ hne (by rw [hn]; omega)]
  exact wpAny_bind (wpAny_standAt (wpAny_bind (wpAny_subDictH (knd := nestedKind prog w) (Q := fun d s' => wpAny (model prog w) A (pure (Value.ref d)) Q E s') hu (by rw [hn]; exact hlen)
    (wpAny_mono h (fun vs s₁ h₁ => by obtain ⟨ps, hc, hm, hq⟩ := h₁; exact ⟨ps, hc, hm, fun h' tk a b => wpAny_pure (hq h' tk a b)⟩) fun _ _ e => e))))
theorem eo_disp {ks : List (Option Expr)} {vs : List Expr} {Fps : List (EV × EV)} (hu : HasRoom X) (h : EdL X W ks vs Fps) (hall : ks.all (·.isSome) = true := by rfl) (hl : ks.length = vs.length := by rfl) (h0 : ks ≠ [] := by simp) (h15 : ks.length ≤ 15 := by decide) (hF : Fps.length = ks.length := by rfl) :
    Eo X W (.Dict ks vs pos) (eDisp Fps) := by
  refine ⟨fun {Z0 H0 Z H σ ρ Q} r q pins s I => ?_⟩
  obtain ⟨trs, h1, h2⟩ := edl_pps (pos := pos) h
  have hn := I.hok.fresh (Nat.le_refl s.heap.objs.size)
  have hg : (s.heap.push { cls := .type "dict", data := .dict #[] }).get? s.heap.objs.size = some { cls := .type "dict", data := .dict #[] } := Heap.get?_push_size _ rfl
  have sys : (s.heap.objs.size == sysModules) = false := beq_eq_false_iff_ne.mpr (Ne.symm (Nat.ne_of_lt I.big))
  have I1 : Inv X pins σ (upd H s.heap.objs.size (rawH s.heap.objs.size { cls := .type "dict", data := .dict #[] })) { s with heap := s.heap.push { cls := .type "dict", data := .dict #[] } } :=
    I.laid (a := s.heap.objs.size) (t' := s.toks) (fun _ _ q => Heap.get?_push_of_some _ q) (Nat.le_refl _) ⟨hg, ⟨_, hg⟩, fun _ _ q k => k _ q⟩
  have x0 : Ext Z H Z (upd H s.heap.objs.size (rawH s.heap.objs.size { cls := .type "dict", data := .dict #[] })) := Ext.newO r.zh hn
  have zn : Z s.heap.objs.size = none := zfree r.zh hn
  unfold eDisp at q
  have q := q.bind
  have hp := evPs_len Fps ρ
  cases hps : evPs Fps ρ with
  | stuck => rw [hps] at q; exact q.elim
  | exc xx =>
    rw [hps] at q
    refine wpAny_Dict_walk (knd := mixKind X.prog X.w) hall hl h0 h15 (thn (h1.run pins _ σ _ (fun _ _ => False) I1 (h2 (r.step x0) ?_)) fun ws s2 ⟨ps, H2, I2, rel, e⟩ => e.elim)
    rw [hps]
    exact XPost.step q x0
  | ok qs =>
    rw [hps] at q
    have hlen := hp qs hps
    have q : Post X W Z H σ (guardR (okKs (qs.map (·.1))) (PyData.dict (mkDict qs))) (fun d => ∀ (a : Addr) (Z' H' : Hp), Ext Z H Z' H' → H a = none → Own X.w X.K Z' H' a d → Q (V.ref a) H') := q
    obtain ⟨ok, q⟩ := q.guard
    have go : ∀ (Q' : List (V × V) → Hp → Prop), (∀ ps Z' H', Ext Z H Z' H' → H' s.heap.objs.size = some (rawH s.heap.objs.size { cls := .type "dict", data := .dict #[] }) → Z' s.heap.objs.size = none → RDP X.w X.K Z' ps qs → Q' ps H') → tPairs trs σ (upd H s.heap.objs.size (rawH s.heap.objs.size { cls := .type "dict", data := .dict #[] })) Q' := by
      intro Q' hq
      refine h2 (r.step x0) ?_
      rw [hps]
      exact fun ps Z' H' x rd => hq ps Z' H' (x0.trans x) (x.hh _ _ upd_same) (x.nw _ _ zn upd_same) rd
    have zl : (mkDict qs).length ≤ sizeLine := by
      have := length_mkDict qs []
      rw [List.length_nil] at this
      unfold mkDict
      have l63 := sizeLine_eq
      omega
    have fin : ∀ (s2 : Shared) (Z' H' : Hp) (h' : Heap) (t' : Nat), Inv X pins σ H' s2 → Ext Z H Z' H' → H' s.heap.objs.size = some (rawH s.heap.objs.size { cls := .type "dict", data := .dict #[] }) → Z' s.heap.objs.size = none → DictAt X.w X.K Z' h' s.heap.objs.size (mkDict qs) → Heap.SameBut s.heap.objs.size s2.heap h' →
        EP X pins σ Q (.ref s.heap.objs.size) { s2 with heap := h', toks := t' } := by
      intro s2 Z' H' h' t' I2 x e zn' da hs
      obtain ⟨o', ho'⟩ := da.obj
      refine ⟨.ref _, _, inv_raw I2 e hs ho', rfl, q _ Z' _ ?_ hn (da.own ho' zn' upd_same)⟩
      refine ⟨fun b u hb => ?_, x.zz, fun b u hb => ?_, fun b u h1 h2 => x.nw b u h1 h2⟩
      · rw [upd_ne (ne_of_none hb hn)]
        exact x.hh b u hb
      · rw [upd_ne (ne_of_none hb zn')]
        exact x.zh b u hb
    unfold okKs at ok
    rw [Bool.or_eq_true, List.all_eq_true, List.all_eq_true] at ok
    rcases ok with ok | ok
    · have ok : ∀ q ∈ qs, flatB q.1 = true := fun q hq => ok _ (List.mem_map_of_mem hq)
      refine wpAny_Dict_walk (knd := mixKind X.prog X.w) hall hl h0 h15 (thn (h1.run pins _ σ _ (fun ps H' => ∃ Z', Ext Z H Z' H' ∧ H' s.heap.objs.size = some (rawH s.heap.objs.size { cls := .type "dict", data := .dict #[] }) ∧ Z' s.heap.objs.size = none ∧ RDP X.w X.K Z' ps qs) I1 (go _ fun ps Z' H' x e zn' rd => ⟨Z', x, e, zn', rd⟩)) fun ws s2 ⟨ps, H2, I2, rel, Z', x, e, zn', rd⟩ => ?_)
      obtain ⟨rs, c, fr⟩ := carries_flat (P := X.prog) rd rel ok
      refine ⟨rs, c, ?_, fun h' dd hs => fin s2 Z' H2 h' _ I2 x e zn' (.ofFlat sys zl dd (fr.merge .nil)) hs⟩
      exact ⟨_, #[], 0, raw_get I2 e, ⟨rfl, rfl, rfl⟩, rfl, fun e he => by simp at he, .nil, List.nodup_nil⟩
    · have ok : ∀ q ∈ qs, tupKB q.1 = true := fun q hq => ok _ (List.mem_map_of_mem hq)
      refine DictTup_walk (by show X.A.units + 8 < cLine; have := hroom hu; omega) hall hl h0 h15 (thn (h1.run pins _ σ _ (fun ps H' => ∃ Z', Ext Z H Z' H' ∧ H' s.heap.objs.size = some (rawH s.heap.objs.size { cls := .type "dict", data := .dict #[] }) ∧ Z' s.heap.objs.size = none ∧ RDP X.w X.K Z' ps qs) I1 (go _ fun ps Z' H' x e zn' rd => ⟨Z', x, e, zn', rd⟩)) fun ws s2 ⟨ps, H2, I2, rel, Z', x, e, zn', rd⟩ => ?_)
      obtain ⟨rs, c, fr⟩ := carries_tup (P := X.prog) (h := s2.heap) (fun p d nk a b c => tup_is I2 x.zh a b c) rd rel ok
      refine ⟨rs, c, ?_, fun h' tk dd hs => fin s2 Z' H2 h' tk I2 x e zn' (.ofTup sys zl dd (fr.merge .nil)) hs⟩
      exact ⟨_, #[], 0, raw_get I2 e, ⟨rfl, rfl, rfl⟩, rfl, rfl, fun x hx => by simp at hx, List.nodup_nil⟩
end
end PQ

/-! PQ.28: x, y, z = a, b, c -/
namespace PQ
open PySem PySem.Spec PyProof.Rows L2
section
variable {X : Cx} {W : WX} {Z0 H0 Z H : Hp} {σ : St} {ρ : Rho}
variable {e a b c d : Expr} {pos p p1 p2 : Pos} {S S' : ES}
def sPar3 (i j l : Nat) (F G I : Rho → R Sl) : ES := fun ρ => Out.of (F ρ) ρ fun s => Out.of (G ρ) ρ fun t => Out.of (I ρ) ρ fun u => .nx (((ρ.set i s).set j t).set l u)
theorem es_par3 (i j l : Nat) {x y z : Str} {px py pz pt : Pos} {kt k2 pt2} {F G I : Rho → R Sl} (hc : X.calm = true) (hN : X.N.Nodup) (h1 : Em X W a F) (h2 : Em X W b G) (h3 : Em X W c I) (hi : X.N[i]? = some x := by rfl) (hj : X.N[j]? = some y := by rfl) (hl : X.N[l]? = some z := by rfl)
    (hij : i ≠ j := by decide) (hil : i ≠ l := by decide) (hjl : j ≠ l := by decide)
    (hx : X.env.scope.names.lookup x = some .local := by rfl) (hy : X.env.scope.names.lookup y = some .local := by rfl) (hz : X.env.scope.names.lookup z = some .local := by rfl)
    (hw : swappedStores [.Tuple [.Name x px, .Name y py, .Name z pz] kt pt] (.Tuple [a, b, c] k2 pt2) X.env = pure (some [x, y, z]) := by rfl)
    (hs : swapsWithSole [.Tuple [.Name x px, .Name y py, .Name z pz] kt pt] (.Tuple [a, b, c] k2 pt2) pos.line X.env = pure false := by rfl)
    (he : starEach [a, b, c] X.env = (false, eval a X.env) :: starEach [b, c] X.env := by rfl) (he2 : starEach [b, c] X.env = (false, eval b X.env) :: starEach [c] X.env := by rfl) (he3 : starEach [c] X.env = (false, eval c X.env) :: starEach [] X.env := by rfl) :
    Es X W (.Assign [.Tuple [.Name x px, .Name y py, .Name z pz] kt pt] (.Tuple [a, b, c] k2 pt2) pos) (sPar3 i j l F G I) := by
  refine ⟨fun {Z0 H0 Z H σ ρ D} r q => toAtS (ps_par3 hc hN hi hj hl hij hil hjl hx hy hz (pa_cons pe_at (pa_cons pe_at (pa_cons pe_at pa_nil he3) he2) he) hw hs) ?_⟩
  refine h1.go r ((q.post r).mono fun s hd v Z1 H1 x1 n1 => ?_)
  refine h2.go (r.step x1) (((hd.post r).step x1).mono fun t ht u Z2 H2 x2 n2 => ?_)
  refine h3.go (r.step (x1.trans x2)) (((ht.post r).step (x1.trans x2)).mono fun t ht w Z3 H3 x3 n3 => ?_)
  exact ⟨v, u, w, rfl, ht _ _ _ ((put2 r x1 x2 hij n1 n2).put x3 l n3) ((x1.zz.trans x2.zz).trans x3.zz)⟩
end
end PQ

/-! PQ.29: x[::-1]; is True, is False -/
namespace PQ
open PySem PySem.Spec PyProof.Rows L2
section
variable {prog : Program} {w : World} {A : Around} {E : Value → Shared → Prop} {s : Shared}
theorem fm_congr {α β : Type} {f g : α → Option β} : ∀ {l : List α}, (∀ x ∈ l, f x = g x) → l.filterMap f = l.filterMap g
  | [], _ => rfl
  | x :: l, h => by
    rw [List.filterMap_cons, List.filterMap_cons, h x List.mem_cons_self, fm_congr fun y hy => h y (List.mem_cons_of_mem _ hy)]
theorem rev_pick {α : Type} (xs : List α) : ((List.range xs.length).filterMap fun (m : Nat) => xs[(((xs.length : Int) - 1) + (m : Int) * (-1)).toNat]?) = xs.reverse := by
  have h := PySem.W.krv_range xs.length
  have h2 : ((List.range xs.length).filterMap fun (m : Nat) => xs[(((xs.length : Int) - 1) + (m : Int) * (-1)).toNat]?) = ((List.range xs.length).map fun k => xs.length - 1 - k).filterMap fun m => xs[m]? := by
    rw [List.filterMap_map]
    refine fm_congr fun m hm => ?_
    rw [List.mem_range] at hm
    have e : (((xs.length : Int) - 1) + (m : Int) * (-1)).toNat = xs.length - 1 - m := by omega
    show xs[_]? = xs[_]?
    rw [e]
  rw [h2, h, List.filterMap_reverse]
  congr 1
  have := PySem.W.krv_all xs.toArray
  simpa using this
theorem getItem_tuple_rev {t sl : Addr} {items : Array Value} {vs : Value} {Q : Value → Shared → Prop} (ht : IsTup s.heap t items) (hs : s.heap.IsSliceOf sl .none .none vs) (ps : IsPart vs (some (-1)))
    (h : Q (.ref s.heap.objs.size) { s with heap := s.heap.push { cls := .type "tuple", data := .seq items.toList.reverse.toArray } })
    (hsz : items.size ≤ sizeLine) : wpAny (model prog w) A (getItem (.ref t) (.ref sl)) Q E s := by
  have htake : sizeOk (.seq items.toList.reverse.toArray) := by
    show items.toList.reverse.toArray.size ≤ sizeLine
    simpa using hsz
  obtain ⟨os, hos, hcs, hds⟩ := id hs
  have hTs : s.TypeIs (.ref sl) "slice" := ⟨os, hos, hcs⟩
  unfold getItem
  try with_reducible refine wpAny_holding ?_
  first | refine wpAny_bind (wpAny_pure ?_) | skip
  refine wpAny_bind (wpAny_sequenceKey ht.typeIs (by decide) ?_)
  refine wpAny_bind (wpAny_callSpecial?_slot (name := Str.ofString "__getitem__") ht.typeIs PyProof.Rows.slot_tuple_getitem
    (wpAny_call_entry PyProof.Rows.slot_tuple_getitem ht.typeIs entry_tuple_getitem ?_ (args_tuple_getitem _ _)))
  show wpAny _ _ (Builtin.Tuple.tupleItemsOf (.ref t) >>= _) _ _ s
  refine wpAny_bind (tupleItemsOf_ ht ?_)
  refine wpAny_bind (wpAny_typeOf hTs ?_)
  rw [if_pos (by decide)]
  refine wpAny_bind ?_
  unfold Builtin.Slice.sliceApplied Builtin.Slice.sliceFields
  refine wpAny_bind (wpAny_bind (wpAny_field hos hds (x := .none) rfl (wpAny_bind (wpAny_field hos hds (x := .none) rfl (wpAny_bind (wpAny_field hos hds (x := vs) rfl (wpAny_pure ?_)))))))
  refine wpAny_bind (HT.slicePart_ ps ?_)
  show wpAny _ _ (if ((-1 : Int) == 0) = true then _ else _) _ _ s
  rw [if_neg (by decide)]
  refine wpAny_bind (HT.slicePart_ .none (wpAny_bind (HT.slicePart_ .none (wpAny_bind (wpAny_pure ?_)))))
  show wpAny _ _ (match Builtin.Slice.sliceAdjust none none (-1 : Int) ((items.size : Nat) : Int) with | (lo, hi) => pure (lo, (-1 : Int), Builtin.Slice.slicePlaces lo hi (-1 : Int))) _ _ s
  have e1 : Builtin.Slice.sliceAdjust none none (-1 : Int) ((items.size : Nat) : Int) = (((items.size : Nat) : Int) - 1, -1) := rfl
  rw [e1]
  have e2 : Builtin.Slice.slicePlaces (((items.size : Nat) : Int) - 1) (-1) (-1 : Int) = items.size := by
    unfold Builtin.Slice.slicePlaces
    rw [if_neg (by decide)]
    split
    · rw [Int.neg_neg, Int.ediv_one]
      omega
    · omega
  show wpAny _ _ (pure ((((items.size : Nat) : Int) - 1), (-1 : Int), Builtin.Slice.slicePlaces (((items.size : Nat) : Int) - 1) (-1) (-1 : Int))) _ _ s
  rw [e2]
  refine wpAny_pure ?_
  have hno : ¬ (((((items.size : Nat) : Int) - 1) == 0 && (-1 : Int) == 1 && items.size == items.size) = true) := by
    intro q
    rw [Bool.and_eq_true, Bool.and_eq_true] at q
    exact absurd q.1.2 (by decide)
  show wpAny _ _ (if ((((items.size : Nat) : Int) - 1) == 0 && (-1 : Int) == 1 && items.size == items.size) = true then _ else _) _ _ s
  rw [if_neg hno]
  have e : ((List.range items.size).filterMap fun (m : Nat) => items[((((items.size : Nat) : Int) - 1) + (m : Int) * (-1)).toNat]?).toArray = items.toList.reverse.toArray := by
    congr 1
    have := rev_pick items.toList
    simpa using this
  rw [e]
  first
    | exact wpAny_bind (m := Builtin.Tuple.tupleExact _) (wpAny_newObj_type (wpAny_pure ⟨_, rfl, wpAny_pure h⟩) htake)
    | exact wpAny_bind (m := Builtin.Tuple.tupleExact _) (wpAny_newObj_type (wpAny_bind (wpAny_pure (wpAny_pure ⟨_, rfl, wpAny_pure h⟩))) htake)
    | exact wpAny_bind (wpAny_bind (m := Builtin.Tuple.tupleExact _) (wpAny_newObj_type (wpAny_pure (wpAny_pure ⟨_, rfl, wpAny_pure h⟩)) htake))
    | exact wpAny_bind (wpAny_bind (m := Builtin.Tuple.tupleExact _) (wpAny_newObj_type (wpAny_pure ⟨_, rfl, wpAny_pure h⟩) htake))
end

/-! ### the rule: lists, tuples -/
def tRevT (K : PySem.W.Frag) (te : TE) : TE := fun σ H Q => te σ H fun x H1 => ∃ a xs, x = .ref a ∧ SqT K H1 a xs ∧ ∀ p, H1 p = none → Q (.ref p) (upd H1 p (.tup xs.reverse))
section
variable {X : Cx} {W : WX} {a b c e : Expr} {es rest : List Expr} {pos p p1 p2 p3 : Pos} {F G I : EV} {T U : ET} {Fs : EA} {te : TE} {k : Nat}
theorem pe_revT (he : PE X e te) : PE X (.Subscript e (.Slice none none (some (.UnaryOp .USub (.Constant (.int 1) k p1) p2)) p3) pos) (tRevT X.K te) := by
  refine ⟨fun pins s σ H Q I h => ?_⟩
  refine Subscript_ (thn (he.run pins s σ H _ I h) fun v s1 ⟨x, H1, I1, r1, q1⟩ => ?_)
  obtain ⟨a, xs, ex, hx, q⟩ := q1
  subst ex
  cases r1
  have hst : PO X (some (.UnaryOp .USub (.Constant (.int 1) k p1) p2)) (tPart (tUn (rU fun i => .int (-i)) (tC (.int 1)))) := po_some (pe_un un_neg pe_int)
  refine wpAny_Slice (thn (po_none.run pins s1 σ H1 (fun o H2 => o = none ∧ H2 = H1) I1 ⟨rfl, rfl⟩) fun vl s2 ⟨l, H2, I2, pl, el, e2⟩ => ?_)
  subst el e2
  refine thn (po_none.run pins s2 σ H2 (fun o H3 => o = none ∧ H3 = H2) I2 ⟨rfl, rfl⟩) fun vu s3 ⟨u, H3, I3, pu, eu, e3⟩ => ?_
  subst eu e3
  refine thn (hst.run pins s3 σ H3 (fun o H4 => o = some (-1) ∧ H4 = H3) I3 ⟨1, rfl, -1, rfl, rfl, rfl⟩) fun vs s4 ⟨o, H4, I4, ps, eo, e4⟩ => ?_
  subst eo e4
  cases pl
  cases pu
  have I5 : Inv X pins σ H4 { s4 with heap := s4.heap.push { cls := .type "slice", data := .fields #[.none, .none, vs] } } := I4.kept (t' := s4.toks) fun b ob q => Heap.get?_push_of_some _ q
  obtain ⟨its, r, ht, hz⟩ := I5.tuple hx
  have hlen := r.length
  show wpAny (model X.prog X.w) X.A (subscriptTail e (.Slice none none (some (.UnaryOp .USub (.Constant (.int 1) k p1) p2)) p3) (.ref a) (.ref s4.heap.objs.size)) (EP X pins σ Q) X.xe { s4 with heap := s4.heap.push { cls := .type "slice", data := .fields #[.none, .none, vs] } }
  refine tail_any (ops := [.ref a, .ref s4.heap.objs.size]) ht.typeIs (PyProof.Rows.slot_tuple_getitem.lookup) ?_ (by with_unfolding_all rfl)
  refine getItem_tuple_rev ht (Heap.IsSliceOf.new _ .none .none vs) ps ?_ (by rw [List.size_toArray]; omega)
  refine ⟨.ref _, _, I5.laid (t' := s4.toks) (o := .tup xs.reverse) (fun b ob q => Heap.get?_push_of_some _ q) (Nat.le_refl _) ?_, rfl, q _ (I5.hok.fresh (Nat.le_refl _))⟩
  refine ⟨by rw [List.length_reverse]; omega, its.reverse, r.reverse, ?_⟩
  exact IsTup.new _ _
def revS (x : Str) : Str := ⟨x.cps.toList.reverse.toArray⟩
def tRevS (te : TE) : TE := fun σ H Q => te σ H fun x H1 => ∃ z : Str, x = .str z ∧ z.length ≤ sizeLine ∧ Q (.str (revS z)) H1
theorem pe_revS (he : PE X e te) : PE X (.Subscript e (.Slice none none (some (.UnaryOp .USub (.Constant (.int 1) k p1) p2)) p3) pos) (tRevS te) := by
  refine ⟨fun pins s σ H Q I h => ?_⟩
  refine Subscript_ (thn (he.run pins s σ H _ I h) fun v s1 ⟨x, H1, I1, r1, q1⟩ => ?_)
  obtain ⟨z, ex, hz, q⟩ := q1
  subst ex
  obtain ⟨t, rfl⟩ := (show ∃ t, v = Value.str z t from r1)
  have hst : PO X (some (.UnaryOp .USub (.Constant (.int 1) k p1) p2)) (tPart (tUn (rU fun i => .int (-i)) (tC (.int 1)))) := po_some (pe_un un_neg pe_int)
  refine wpAny_Slice (thn (po_none.run pins s1 σ H1 (fun o H2 => o = none ∧ H2 = H1) I1 ⟨rfl, rfl⟩) fun vl s2 ⟨l, H2, I2, pl, el, e2⟩ => ?_)
  subst el e2
  refine thn (po_none.run pins s2 σ H2 (fun o H3 => o = none ∧ H3 = H2) I2 ⟨rfl, rfl⟩) fun vu s3 ⟨u, H3, I3, pu, eu, e3⟩ => ?_
  subst eu e3
  refine thn (hst.run pins s3 σ H3 (fun o H4 => o = some (-1) ∧ H4 = H3) I3 ⟨1, rfl, -1, rfl, rfl, rfl⟩) fun vs s4 ⟨o, H4, I4, ps, eo, e4⟩ => ?_
  subst eo e4
  cases pl
  cases pu
  obtain ⟨t2, rfl⟩ : ∃ t2, vs = .int (-1) t2 := by cases ps; exact ⟨_, rfl⟩
  have I5 : Inv X pins σ H4 { s4 with heap := s4.heap.push { cls := .type "slice", data := .fields #[.none, .none, .int (-1) t2] } } := I4.kept (t' := s4.toks) fun b ob q => Heap.get?_push_of_some _ q
  show wpAny (model X.prog X.w) X.A (subscriptTail e (.Slice none none (some (.UnaryOp .USub (.Constant (.int 1) k p1) p2)) p3) (.str z t) (.ref s4.heap.objs.size)) (EP X pins σ Q) X.xe { s4 with heap := s4.heap.push { cls := .type "slice", data := .fields #[.none, .none, .int (-1) t2] } }
  refine tail_any (ops := [.str z t, .ref s4.heap.objs.size]) (typeIs_str _ z t) (PySem.F.slot_str_getitem.lookup) ?_ (by with_unfolding_all rfl)
  refine wpAny_getItem_str_slice (l := none) (u := none) (st := some (-1, t2)) ⟨_, Heap.get?_push_size _ rfl, rfl, rfl⟩ rfl ?_
  have e : sliceMade z t none none (some (-1, t2)) = .str (revS z) := by
    have h1 : slicePicked z none none (some (-1, t2)) = (List.range z.length).map fun k => z.length - 1 - k := PySem.W.krv_sliceRange z.length
    unfold sliceMade
    rw [h1]
    show Made.str _ = _
    congr 1
    unfold revS
    congr 2
    rw [PySem.W.krv_range, List.filterMap_reverse]
    congr 1
    exact PySem.W.krv_all z.cps
  rw [e]
  exact ⟨by show z.cps.toList.reverse.toArray.size ≤ sizeLine; have hz : z.cps.size ≤ sizeLine := hz; simpa using hz, .str _, H4, I5.tok _, ⟨_, rfl⟩, q⟩
def dRev : D → R D
  | .str z => guardR (fits z.length) (.str (revS z))
  | .list ds => .ok (.list ds.reverse)
  | .tuple ds => .ok (.tuple ds.reverse)
  | _ => .stuck
theorem ev_rev (ha : Ev X W e F) : Ev X W (.Subscript e (.Slice none none (some (.UnaryOp .USub (.Constant (.int 1) k p1) p2)) p3) pos) (e1 dRev F) := by
  refine ⟨fun {Z0 H0 Z H σ ρ Q} r q => ?_⟩
  have q := q.bind
  have g := ha.go r (Q := fun x H1 => ∃ a xs, x = V.ref a ∧ SqL X.K H1 a xs ∧ ∀ p, H1 p = none → Q (.ref p) (upd H1 p (.lst xs.reverse)))
  have g3 := ha.go r (Q := fun x H1 => ∃ z : Str, x = V.str z ∧ z.length ≤ sizeLine ∧ Q (.str (revS z)) H1)
  have g2 := ha.go r (Q := fun x H1 => ∃ a xs, x = V.ref a ∧ SqT X.K H1 a xs ∧ ∀ p, H1 p = none → Q (.ref p) (upd H1 p (.tup xs.reverse)))
  cases h : F ρ with
  | stuck => rw [h] at q; exact q.elim
  | exc x => rw [h] at q g; exact toAt (pe_revL pe_at) (g q)
  | ok d =>
    rw [h] at q g g2 g3
    cases d with
    | str z =>
      have q : Post X W Z H σ (guardR (fits z.length) (PyData.str (revS z))) (QV X Z H Q) := q
      obtain ⟨hc, q⟩ := q.guard
      refine toAt (pe_revS pe_at) (g3 fun v Z' H' x rv => ?_)
      cases rv
      exact ⟨z, rfl, fits_le hc, q _ _ _ x (.str _)⟩
    | list ds =>
      have q : QV X Z H Q (.list ds.reverse) := q
      refine toAt (pe_revL pe_at) (g fun v Z' H' x rv => ?_)
      cases rv with
      | lst h1 r1 =>
        refine ⟨_, _, rfl, .inl (.inl (x.zh _ _ h1)), fun p hp => ?_⟩
        exact q _ _ _ (x.trans (Ext.new x.zh hp)) (.lst upd_same (r1.mono (Ext.new (o := .lst _) x.zh hp).zz).reverse)
    | tuple ds =>
      have q : QV X Z H Q (.tuple ds.reverse) := q
      refine toAt (pe_revT pe_at) (g2 fun v Z' H' x rv => ?_)
      obtain ⟨b, xs, rfl, h1, r1⟩ := rd_tup rv
      refine ⟨_, _, rfl, SqT.mono x.zh h1, fun p hp => ?_⟩
      exact q _ _ _ (x.trans (Ext.new x.zh hp)) (.tup (.inl (.inl upd_same)) (r1.mono (Ext.new (o := .tup _) x.zh hp).zz).reverse)
    | _ => exact q.elim
/-! ### is True, is not True -/
def dIsB : D → D → R D
  | .bool a, .bool b => .ok (.bool (decide (a = b)))
  | _, _ => .stuck
def dNotB : D → D → R D
  | .bool a, .bool b => .ok (.bool (!decide (a = b)))
  | _, _ => .stuck
theorem cl_isB (x y : D) : (dIsB x y).clean := by unfold dIsB; split <;> trivial
theorem cl_notB (x y : D) : (dNotB x y).clean := by unfold dNotB; split <;> trivial
theorem od_isB : OpD X rIsB dIsB := by
  intro Z H x y dx dy Q s rx ry h
  unfold dIsB at h
  split at h
  · cases rx; cases ry
    exact ⟨_, _, rfl, rfl, h _ _ _ (Ext.refl s) (.bl _)⟩
  · exact h.elim
theorem od_notB : OpD X rNotB dNotB := by
  intro Z H x y dx dy Q s rx ry h
  unfold dNotB at h
  split at h
  · cases rx; cases ry
    exact ⟨_, _, rfl, rfl, h _ _ _ (Ext.refl s) (.bl _)⟩
  · exact h.elim
theorem ev_isB (ha : Ev X W a F) (hb : Ev X W b G) (hm : behindInMarks .Is b = false := by rfl) : Ev X W (.Compare a [.Is] [b] pos) (e2 dIsB F G) := ev_2 (fun p q => pe_cmpR op_isBl p q hm) od_isB cl_isB ha hb
theorem ev_notB (ha : Ev X W a F) (hb : Ev X W b G) (hm : behindInMarks .IsNot b = false := by rfl) : Ev X W (.Compare a [.IsNot] [b] pos) (e2 dNotB F G) := ev_2 (fun p q => pe_cmpR op_notBl p q hm) od_notB cl_notB ha hb
end
end PQ

/-! PQ.30: reversed(range(..)) -/
namespace PQ
open PySem PySem.Spec PyProof.Rows L2
section
variable {X : Cx} {W : WX} {a b c e tg : Expr} {es : List Expr} {pos p : Pos} {F G : EV} {Fs : EA}
theorem io_rev {Z : Hp} (a b : Int) : ItOk X (Itc (a + (((b - a).toNat : Nat) : Int) - 1) (-1) (b - a).toNat) Z (rgD a b).reverse := by
  have el : (rgD a b).length = (b - a).toNat := by unfold rgD; simp
  have el2 : (rgD a b).reverse.length = (b - a).toNat := by rw [List.length_reverse, el]
  refine ⟨fun s1 s2 => Nat.le_of_eq el2.symm, fun {i Z' H' d} s1 s2 e => ?_, fun {i Z' H' d x H''} s1 s2 e y => ?_⟩
  · rw [← el2]; exact (List.getElem?_eq_some_iff.mp e).1
  · obtain ⟨rfl, rfl⟩ := y
    have hi' : i < (rgD a b).reverse.length := (List.getElem?_eq_some_iff.mp e).1
    rw [el2] at hi'
    rw [List.getElem?_reverse (by rw [el]; exact hi'), el] at e
    unfold rgD at e
    rw [List.getElem?_map, List.getElem?_range (by omega)] at e
    cases e
    refine ⟨_, Ext.refl s2, ?_⟩
    have e2 : a + (((b - a).toNat : Nat) : Int) - 1 + ((i : Nat) : Int) * -1 = a + (((b - a).toNat - 1 - i : Nat) : Int) := by omega
    rw [e2]
    exact .int _
def iRev (FR : ER) : EI := fun ρ => FR ρ >>= fun o => guardR (big62 o.1 && big62 o.2) (rgD o.1 o.2).reverse
theorem ei_revRg {FR : ER} (hm : X.mg "reversed" = none) (ha : Er X W a FR) (hg : Gl X "reversed" := by rfl) (na : starEach [a] X.env = (false, eval a X.env) :: starEach [] X.env := by rfl) : Ei X W tg (.Call (.Name "reversed" p) [a] [] pos) (iRev FR) := by
  refine ⟨fun {Z0 H0 Z H σ ρ Q} r q => ?_⟩
  obtain ⟨t, ht, hq⟩ := ha.go (Q := fun a b H1 => -(2 ^ 62) ≤ a ∧ a < 2 ^ 62 ∧ -(2 ^ 62) ≤ b ∧ b < 2 ^ 62 ∧ Q (Itc (a + (((b - a).toNat : Nat) : Int) - 1) (-1) (b - a).toNat) H1) r (q.bind.mono fun o ho Z1 H1 x1 => by
    obtain ⟨hok, ho⟩ := ho.guard
    rw [Bool.and_eq_true] at hok
    obtain ⟨b1, b2⟩ := big62_of hok.1
    obtain ⟨b3, b4⟩ := big62_of hok.2
    exact ⟨b1, b2, b3, b4, ho _ _ _ x1 (io_rev _ _)⟩)
  exact toAtI (pi_revR hg hm ht na) hq
end
end PQ

/-! PQ.31: lists of own lists: their making (printed by mkq31.py from Q7's comprehension) -/
namespace PQ
open PySem PySem.Spec PyProof.Rows L2

/-- the list as a row -/
def eLs (F : EV) : EV := fun ρ => F ρ >>= fun d => match d with
  | .list ds => .ok (.list ds)
  | _ => .stuck
def rowD : D → List D
  | .list ds => ds
  | _ => []
def eCompN (Fi : EI) (A : EG) (T : ET) (F : EV) (vs : List Nat) : EA := fun ρ => Fi ρ >>= fun ds => guardR (fits ds.length) ds >>= fun ds => nx (compR (cStep A T (eLs F) (wipeR ρ vs)) ds) >>= fun ys => .ok ys
/-- the lists that are laid so far -/
structure LInv (w : World) (K : PySem.W.Frag) (H1 : Hp) (D : Addr) (Z H : Hp) (bs : List Addr) (ys : List PQ.D) : Prop where
  zD : Z D = none
  hD : H D = some (.lst (bs.map .ref))
  it : ∀ (i : Nat) (b : Addr), bs[i]? = some b → ∃ xs ds, ys[i]? = some (.list ds) ∧ Z b = none ∧ H b = some (.lst xs) ∧ RDs w K Z xs ds
  ln : bs.length = ys.length
  nd : (D :: bs).Nodup
  fr : ∀ b ∈ bs, H1 b = none
section
variable {w : World} {K : PySem.W.Frag} {H1 Z H Z' H' : Hp} {D : Addr} {bs : List Addr} {ys : List PQ.D}
theorem LInv.nil (hz : Z D = none) (h : H D = some (.lst [])) : LInv w K H1 D Z H [] [] := ⟨hz, h, fun i b e => by simp at e, rfl, by simp, fun b hb => by cases hb⟩
theorem LInv.there (h : LInv w K H1 D Z H bs ys) {b : Addr} (hb : b ∈ bs) : ∃ u, H b = some u := by
  obtain ⟨i, hi⟩ := List.mem_iff_getElem?.mp hb
  obtain ⟨xs, ds, _, _, h3, _⟩ := h.it i b hi
  exact ⟨_, h3⟩
theorem LInv.ext (h : LInv w K H1 D Z H bs ys) (x : Ext Z H Z' H') : LInv w K H1 D Z' H' bs ys := by
  refine ⟨x.nw _ _ h.zD h.hD, x.hh _ _ h.hD, fun i b hb => ?_, h.ln, h.nd, h.fr⟩
  obtain ⟨xs, ds, h1, h2, h3, h4⟩ := h.it i b hb
  exact ⟨xs, ds, h1, x.nw _ _ h2 h3, x.hh _ _ h3, h4.mono x.zz⟩
theorem LInv.snoc (h : LInv w K H1 D Z H bs ys) {v : Addr} {xs : List V} {ds : List PQ.D} (hv : v ≠ D) (hb : v ∉ bs) (hf : H1 v = none) (hz : Z v = none) (hh : H v = some (.lst xs)) (rd : RDs w K Z xs ds) : LInv w K H1 D Z (upd H D (.lst (bs.map V.ref ++ [.ref v]))) (bs ++ [v]) (ys ++ [.list ds]) := by
  have hn := h.nd
  rw [List.nodup_cons] at hn
  refine ⟨h.zD, by rw [upd_same, List.map_append]; rfl, fun i b e => ?_, by rw [List.length_append, List.length_append, h.ln]; rfl, ?_, fun b hb' => ?_⟩
  · by_cases hi : i < bs.length
    · rw [List.getElem?_append_left hi] at e
      obtain ⟨xs', ds', h1, h2, h3, h4⟩ := h.it i b e
      have hbD : b ≠ D := fun z => hn.1 (z ▸ List.mem_of_getElem? e)
      exact ⟨xs', ds', by rw [List.getElem?_append_left (by rw [← h.ln]; exact hi)]; exact h1, h2, by rw [upd_ne hbD]; exact h3, h4⟩
    · rw [List.getElem?_append_right (by omega)] at e
      have e0 : i - bs.length = 0 := by
        have := (List.getElem?_eq_some_iff.mp e).1
        simp at this
        omega
      rw [e0] at e
      simp at e
      subst e
      exact ⟨xs, ds, by rw [List.getElem?_append_right (by rw [← h.ln]; omega), ← h.ln, e0]; rfl, hz, by rw [upd_ne hv]; exact hh, rd⟩
  · rw [List.nodup_cons]
    refine ⟨fun m => ?_, ?_⟩
    · rcases List.mem_append.mp m with m | m
      · exact hn.1 m
      · simp at m; exact hv m.symm
    · rw [List.nodup_append]
      refine ⟨hn.2, by simp, fun a ha b hb' e => ?_⟩
      simp at hb'
      subst hb' e
      exact hb ha
  · rcases List.mem_append.mp hb' with m | m
    · exact h.fr b m
    · simp at m; rw [m]; exact hf
theorem LInv.nown (h : LInv w K H1 D Z H bs ys) : NOwn w K Z H D bs (ys.map rowD) := by
  refine ⟨h.zD, h.hD, fun i b hb => ?_, by rw [List.length_map]; exact h.ln, h.nd⟩
  obtain ⟨xs, ds, h1, h2, h3, h4⟩ := h.it i b hb
  exact ⟨xs, ds, by rw [List.getElem?_map, h1]; rfl, h2, h3, h4⟩
theorem LInv.fresh {Z0 H0 Z1 : Hp} (h : LInv w K H1 D Z H bs ys) (x : Ext Z0 H0 Z1 H1) : ∀ b ∈ bs, H0 b = none := fun b hb => hnone x (h.fr b hb)
end
abbrev QN (X : Cx) (Z H : Hp) (Q : VK) (ys : List D) : Prop := ∀ a bs Z' H', Ext Z H Z' H' → H a = none → (∀ b ∈ bs, H b = none) → NOwn X.w X.K Z' H' a bs (ys.map rowD) → Q (.ref a) H'
section
variable {X : Cx} {W : WX} {tg iter elt : Expr} {ifs : List Expr} {scope : Scope} {own : List (Str × Nat)} {pos p : Pos} {Fi : EI} {A : EG} {T : ET} {F : EV} {js : List Nat}
theorem lc_readN (hi : Ei X W tg iter Fi) (hg : ∀ (s : Shared) (H : Hp) (C : Addr) (cl : List (Str × Addr)) (fp : List Addr), Eg (X.blk s H scope (compEnvC scope cl C X.env) fp) tg A js) (hjs : ∀ j ∈ js, j ∈ own.map (·.2))
    (ht : ∀ (s : Shared) (H : Hp) (C : Addr) (cl : List (Str × Addr)) (fp : List Addr), Ets (X.blk s H scope (compEnvC scope cl C X.env) fp) ifs T)
    (he : ∀ (s : Shared) (H : Hp) (C : Addr) (cl : List (Str × Addr)) (fp : List Addr), Eo (X.blk s H scope (compEnvC scope cl C X.env) fp) WF elt F)
    {Z0 H0 Z H : Hp} {σ : St} {ρ : Rho} {Q : VK} (r : Rep X.w X.K Z0 H0 Z H σ ρ) (q : Post X W Z H σ (eCompN Fi A T F (own.map (·.2)) ρ) (QN X Z H Q)) :
    tLc (PIat X tg iter) (fun v σ H Q => ∀ s H0 C cl fp, PGat (X.blk s H0 scope (compEnvC scope cl C X.env) fp) tg v σ H Q) (fun σ H Q => ∀ s H0 C cl fp, PTsat (X.blk s H0 scope (compEnvC scope cl C X.env) fp) ifs σ H Q)
      (fun σ H Q => ∀ s H0 C cl fp, PEat (X.blk s H0 scope (compEnvC scope cl C X.env) fp) elt σ H Q) (own.map (·.2)) σ H Q := by
  generalize hvs : own.map (·.2) = vs at *
  refine hi.go r (q.bind.mono fun ds q J Z1 H1 x1 io D hD => ?_)
  have q := q.bind
  unfold guardR at q
  split at q
  rotate_left
  · exact q.elim
  rename_i hfit
  have hfit := fits_le hfit
  have q : Post X W Z H σ (nx (compR (cStep A T (eLs F) (wipeR ρ vs)) ds) >>= fun ys => R.ok ys) (QN X Z H Q) := q
  cases hC : compR (cStep A T (eLs F) (wipeR ρ vs)) ds with
  | exc x => rw [hC] at q; exact q.elim
  | stuck => rw [hC] at q; exact q.elim
  | ok all =>
    rw [hC] at q
    have q : QN X Z H Q all := q
    refine ⟨fun i m Hc => m = ds.length - i ∧ i ≤ ds.length ∧ ∃ Zc bs ys, Ext Z1 H1 Zc Hc ∧ LInv X.w X.K H1 D Zc Hc bs ys ∧ bs.length ≤ i ∧ compR (cStep A T (eLs F) (wipeR ρ vs)) (ds.take i) = .ok ys,
      ⟨ds.length, by simp, Nat.zero_le _, Z1, [], [], Ext.newO x1.zh hD, .nil (zfree x1.zh hD) upd_same, Nat.le_refl _, rfl⟩, ?_⟩
    rintro i m Hc ⟨rfl, hle, Zc, bs, ys, xc, li, hal, hcomp⟩
    by_cases hlt : i < ds.length
    · have hd : ds[i]? = some ds[i] := by simp [hlt]
      generalize ds[i] = d at hd
      refine .inr ⟨io.go xc.zz xc.zh hd, fun H' => i + 1 ≤ ds.length ∧ ∃ Zc bs ys, Ext Z1 H1 Zc H' ∧ LInv X.w X.K H1 D Zc H' bs ys ∧ bs.length ≤ i + 1 ∧ compR (cStep A T (eLs F) (wipeR ρ vs)) (ds.take (i + 1)) = .ok ys,
        fun H' h => ⟨ds.length - (i + 1), by omega, rfl, h⟩, fun x H' hy s H00 C cl fp => ?_⟩
      obtain ⟨Z2, x2, rx⟩ := io.yld xc.zz xc.zh hd hy
      have x12 := xc.trans x2
      have r2 : Rep X.w X.K Z0 H0 Z2 H' (L2.wipe σ vs) (wipeR ρ vs) := (r.step (x1.trans x12)).wipe vs
      obtain ⟨zs, hzs⟩ := compR_take hC (i + 1)
      have hsn : compR (cStep A T (eLs F) (wipeR ρ vs)) (ds.take (i + 1)) = compR (cStep A T (eLs F) (wipeR ρ vs)) (ds.take i) >>= fun ys => cStep A T (eLs F) (wipeR ρ vs) d >>= fun o => .ok (ys ++ o.toList) := by
        rw [List.take_add_one, hd]
        exact compR_snoc _ _ _
      rw [hcomp, hzs] at hsn
      have hsn : R.ok zs = cStep A T (eLs F) (wipeR ρ vs) d >>= fun o => R.ok (ys ++ o.toList) := hsn
      have li2 := li.ext x2
      unfold cStep at hsn
      cases e1 : A d (wipeR ρ vs) with
      | exc x => rw [e1] at hsn; cases hsn
      | stuck => rw [e1] at hsn; cases hsn
      | ok ρ2 =>
        rw [e1, R.ok_bind] at hsn
        refine (hg s H00 C cl fp).go r2 rx ?_
        rw [e1]
        intro σ2 o2 rr2
        refine ⟨(o2.mono hjs).wipe.trans ?_, fun s' H0' C' cl' fp' => ?_⟩
        · apply List.ext_getElem?
          intro j
          rw [wipe_at, wipe_at, wipe_length]
          split <;> rfl
        cases e2 : T ρ2 with
        | exc x => rw [e2] at hsn; cases hsn
        | stuck => rw [e2] at hsn; cases hsn
        | ok b =>
          rw [e2, R.ok_bind] at hsn
          refine (ht s' H0' C' cl' fp').go rr2 ?_
          rw [e2]
          intro Z3 H3 x3
          cases b with
          | false =>
            rw [if_neg Bool.false_ne_true] at hsn ⊢
            have e3 : zs = ys := by
              have hsn : R.ok zs = R.ok (ys ++ []) := hsn
              cases hsn; simp
            subst e3
            exact ⟨hlt, Z3, bs, zs, x12.trans x3, li2.ext x3, Nat.le_succ_of_le hal, hzs⟩
          | true =>
            rw [if_pos rfl] at hsn ⊢
            intro s2 H02 C2 cl2 fp2
            unfold eLs at hsn
            cases e3 : F ρ2 with
            | exc x => rw [e3] at hsn; cases hsn
            | stuck => rw [e3] at hsn; cases hsn
            | ok y =>
              rw [e3] at hsn
              cases y with
              | list dsy =>
                have e4 : zs = ys ++ [PyData.list dsy] := by
                  have hsn : R.ok zs = R.ok (ys ++ [PyData.list dsy]) := hsn
                  cases hsn; rfl
                subst e4
                refine (he s2 H02 C2 cl2 fp2).go (rr2.step x3) ?_
                rw [e3]
                intro v Z4 H4 x4 hn4 ow
                have x34 := x3.trans x4
                have li4 := (li2.ext x3).ext x4
                have hnH1 : H1 v = none := hnone (x12.trans x3) hn4
                have hvD : v ≠ D := fun z => by
                  subst z
                  have := (li2.ext x3).hD
                  rw [hn4] at this
                  cases this
                have hvb : v ∉ bs := fun z => by
                  obtain ⟨u, hu⟩ := (li2.ext x3).there z
                  rw [hn4] at hu
                  cases hu
                cases ow with
                | lst hz hh rds =>
                  refine ⟨bs.map .ref, li4.hD, by rw [List.length_map]; exact Nat.lt_of_lt_of_le (Nat.lt_of_le_of_lt hal hlt) hfit, hlt, Z4, bs ++ [v], ys ++ [PyData.list dsy], ?_, ?_, by rw [List.length_append]; exact Nat.add_le_add_right hal 1, hzs⟩
                  · have xx := x12.trans x34
                    refine ⟨fun b u hb => ?_, xx.zz, fun b u hb => ?_, xx.nw⟩
                    · rw [upd_ne (ne_of_none hb hD)]; exact xx.hh b u hb
                    · rw [upd_ne (fun z => by rw [z, li4.zD] at hb; cases hb)]; exact xx.zh b u hb
                  · exact li4.snoc hvD hvb hnH1 hz hh rds
              | _ => cases hsn
    · have ei : i = ds.length := by omega
      subst ei
      refine .inl ⟨io.stop xc.zz xc.zh, ?_⟩
      rw [List.take_length, hC] at hcomp
      cases hcomp
      exact q D bs Zc Hc (x1.trans xc) (hnone x1 hD) (li.fresh x1) (li.nown)
def mN (F : EA) : Rho → R Sl := fun ρ => F ρ >>= fun ys => .ok (.n (ys.map rowD))
theorem em_compN (hc : X.calm = true) (hN : X.N.Nodup) (hi : Ei X W tg iter Fi) (ok : BlkOk X.N X.env.scope scope own) (hg : ∀ (s : Shared) (H : Hp) (C : Addr) (cl : List (Str × Addr)) (fp : List Addr), Eg (X.blk s H scope (compEnvC scope cl C X.env) fp) tg A js) (hjs : ∀ j ∈ js, j ∈ own.map (·.2))
    (ht : ∀ (s : Shared) (H : Hp) (C : Addr) (cl : List (Str × Addr)) (fp : List Addr), Ets (X.blk s H scope (compEnvC scope cl C X.env) fp) ifs T)
    (he : ∀ (s : Shared) (H : Hp) (C : Addr) (cl : List (Str × Addr)) (fp : List Addr), Eo (X.blk s H scope (compEnvC scope cl C X.env) fp) WF elt F) (hs : ∀ x, foldedSetIterable iter X.env x = pure x := by intro _; rfl) :
    Em X W (.ListComp elt [⟨tg, iter, ifs, 0⟩] scope pos) (mN (eCompN Fi A T F (own.map (·.2)))) := by
  refine ⟨fun {Z0 H0 Z H σ ρ Q} r q => toAt (pe_lc hc hN pi_at ok ?_ ?_ ?_ hs) (lc_readN hi hg hjs ht he r ?_)⟩
  · exact fun s H C cl fp => ⟨fun pins s' σ H' v u Q I rv h => (h s H C cl fp) pins s' u I rv⟩
  · exact fun s H C cl fp => ⟨fun pins s' σ H' Q I h => pts_at.run pins s' σ H' Q I (h s H C cl fp)⟩
  · exact fun s H C cl fp => ⟨fun pins s' σ H' Q I h => (h s H C cl fp) pins s' I⟩
  · refine q.bind.mono fun ys q a bs Z' H' x hn hb no => ?_
    exact q _ _ _ x ⟨a, bs, rfl, fun b m => by
      rcases List.mem_cons.mp m with rfl | m
      · exact hn
      · exact hb b m, no⟩
end
end PQ

/-! PQ.32: lists of own lists: rows[r][c], rows[r][c] = v, freezing -/
namespace PQ
open PySem PySem.Spec PyProof.Rows L2
section
variable {X : Cx} {W : WX} {Z0 H0 Z H : Hp} {σ : St} {ρ : Rho}
variable {st : Stmt} {e a b c ie ie2 tg : Expr} {pos p p1 p2 p3 : Pos} {F G I : EV} {T : ET} {S S' : ES}
def slN : Option Sl → R (List (List D))
  | some (.n rows) => .ok rows
  | _ => .stuck
/-- rows[r][c], rows the slot's own lists -/
def eNix (i : Nat) (F G : EV) : EV := fun ρ => slN ρ[i]? >>= fun rows => F ρ >>= asI >>= fun r => oR (ixN rows.length r) >>= fun j => G ρ >>= asI >>= fun k => oR (atI (rows.getD j []) k)
theorem NOwn.row {w : World} {K : PySem.W.Frag} {a : Addr} {bs : List Addr} {rows : List (List D)} (q : NOwn w K Z H a bs rows) {r : Int} {j : Nat} (h : ixN rows.length r = some j) : ∃ b xs, bs[j]? = some b ∧ atI (bs.map V.ref) r = some (.ref b) ∧ H b = some (.lst xs) ∧ RDs w K Z xs (rows.getD j []) := by
  have hj : j < rows.length := (ixN_seq h).2.1
  have hb : j < bs.length := by rw [q.ln]; exact hj
  obtain ⟨xs, ds, h1, h2, h3, h4⟩ := q.it j bs[j] (by simp [hb])
  refine ⟨bs[j], xs, by simp [hb], ?_, h3, ?_⟩
  · unfold atI
    rw [List.length_map, q.ln, h]
    show (bs.map V.ref)[j]? = _
    simp [hb]
  · rw [List.getD_eq_getElem?_getD, h1]
    exact h4
theorem NOwn.ext {a' : Addr} {bs : List Addr} {rows : List (List PQ.D)} (q : NOwn X.w X.K Z H a' bs rows) {Z' H' : Hp} (x : Ext Z H Z' H') : NOwn X.w X.K Z' H' a' bs rows := q.keep x.zz fun b hb => by
  obtain ⟨h1, xs, h2⟩ := q.mem hb
  exact ⟨x.nw b _ h1 h2, fun o e => x.hh _ _ e⟩
theorem ev_nix (i : Nat) {x : Str} (h : Ev X W ie F) (hg : Ev X W ie2 G) (hi : X.N[i]? = some x := by rfl) (hv : Vis X.env.scope x := by first | exact Or.inl rfl | exact Or.inr (Or.inl rfl) | exact Or.inr (Or.inr rfl)) (hd : (x == ("__debug__" : Str)) = false := by decide)
    (hcd : (x == ("__classdict__" : Str)) = false := by decide) (hs : PlainIx ie := by exact fun _ _ => rfl) (hs2 : PlainIx ie2 := by exact fun _ _ => rfl) : Ev X W (.Subscript (.Subscript (.Name x p) ie p1) ie2 p2) (eNix i F G) := by
  refine ⟨fun {Z0 H0 Z H σ ρ Q} r q => toAt (pe_ix ix_list (pe_ix ix_list (pe_var hi hv hd hcd) pe_at hs) pe_at hs2) ?_⟩
  unfold eNix at q
  cases hr : ρ[i]? with
  | none => rw [hr] at q; exact q.elim
  | some s =>
    rw [hr] at q
    cases s with
    | n rows =>
      obtain ⟨a, bs, hl, no, h0⟩ := r.getN hr
      refine ⟨_, hl, ?_⟩
      have q : Post X W Z H σ (F ρ >>= asI >>= fun r => oR (ixN rows.length r) >>= fun j => G ρ >>= asI >>= fun k => oR (atI (rows.getD j []) k)) (QV X Z H Q) := q
      refine h.go r (q.bind.bind.mono fun d q v Z1 H1 x1 r1 => ?_)
      cases d with
      | int k =>
        cases r1
        have q : Post X W Z H σ (oR (ixN rows.length k) >>= fun j => G ρ >>= asI >>= fun k => oR (atI (rows.getD j []) k)) (QV X Z H Q) := q
        cases hj : ixN rows.length k with
        | none => rw [hj] at q; exact q.elim
        | some j =>
          rw [hj] at q
          have q : Post X W Z H σ (G ρ >>= asI >>= fun k => oR (atI (rows.getD j []) k)) (QV X Z H Q) := q
          have no1 := no.ext x1
          obtain ⟨b, xs, hb, hat, hH, rds⟩ := no1.row hj
          refine ⟨_, _, _, _, rfl, rfl, .inl (.inl no1.ha), hat, ?_⟩
          refine hg.go (r.step x1) ((q.bind.bind.step x1).mono fun d q v Z2 H2 x2 r2 => ?_)
          cases d with
          | int m =>
            cases r2
            have q : Post X W Z H σ (oR (atI (rows.getD j []) m)) (QV X Z H Q) := q
            cases hm : atI (rows.getD j []) m with
            | none => rw [hm] at q; exact q.elim
            | some d =>
              rw [hm] at q
              have q : QV X Z H Q d := q
              obtain ⟨v, hv, rv⟩ := (rds.mono x2.zz).at hm
              exact ⟨_, _, _, _, rfl, rfl, .inl (.inl (x2.hh _ _ hH)), hv, q _ _ _ (x1.trans x2) rv⟩
          | _ => exact q.elim
      | _ => exact q.elim
    | _ => exact q.elim
/-- rows[r][c] = v -/
def sSetN (i : Nat) (F G I : EV) : ES := fun ρ => Out.of (I ρ) ρ fun d => Out.of (slN ρ[i]?) ρ fun rows => Out.of (F ρ >>= asI) ρ fun r => Out.of (oR (ixN rows.length r)) ρ fun j => Out.of (G ρ >>= asI) ρ fun k => Out.of (oR (ixN (rows.getD j []).length k)) ρ fun m => .nx (ρ.set i (.n (rows.set j ((rows.getD j []).set m d))))
theorem es_setN (i : Nat) {x : Str} (h : Ev X W ie F) (hg : Ev X W ie2 G) (he : Ev X W e I) (hi : X.N[i]? = some x := by rfl) (hv : Vis X.env.scope x := by first | exact Or.inl rfl | exact Or.inr (Or.inl rfl) | exact Or.inr (Or.inr rfl)) (hd : (x == ("__debug__" : Str)) = false := by decide)
    (hcd : (x == ("__classdict__" : Str)) = false := by decide) (hsi : PlainIx ie := by exact fun _ _ => rfl)
    (ha : ∀ v, assign (.Subscript (.Subscript (.Name x p) ie p1) ie2 p2) X.env v = (do
      let ov ← holding [v] (eval (.Subscript (.Name x p) ie p1) X.env)
      let iv ← holding [v, ov] (eval ie2 X.env)
      standAt p2
      holding [v, ov, iv] (setItem ov iv v)
      release [v, ov, iv] []) := by intro _; rfl)
    (hs : swapsWithSole [.Subscript (.Subscript (.Name x p) ie p1) ie2 p2] e pos.line X.env = pure false := by rfl) (hw : swappedStores [.Subscript (.Subscript (.Name x p) ie p1) ie2 p2] e X.env = pure none := by rfl)
    (h1 : (assignEach [.Subscript (.Subscript (.Name x p) ie p1) ie2 p2] X.env).map (·.2) = [assign (.Subscript (.Subscript (.Name x p) ie p1) ie2 p2) X.env] := by rfl) : Es X W (.Assign [.Subscript (.Subscript (.Name x p) ie p1) ie2 p2] e pos) (sSetN i F G I) := by
  refine ⟨fun {Z0 H0 Z H σ ρ En} r q => toAtS (ps_asg pe_at (pg_sub (pe_ix ix_list (pe_var hi hv hd hcd) pe_at hsi) pe_at set_list ha) hs hw h1) ?_⟩
  refine he.go r ((q.post r).mono fun d q v Z1 H1 x1 r1 => ?_)
  cases hr : ρ[i]? with
  | none => rw [hr] at q; exact q.elim
  | some s =>
    rw [hr] at q
    cases s with
    | n rows =>
      obtain ⟨a, bs, hl, no, h0⟩ := r.getN hr
      refine ⟨_, hl, ?_⟩
      have q : SPost X W Z0 H0 Z (Out.of (F ρ >>= asI) ρ fun r => Out.of (oR (ixN rows.length r)) ρ fun j => Out.of (G ρ >>= asI) ρ fun k => Out.of (oR (ixN (rows.getD j []).length k)) ρ fun m => .nx (ρ.set i (.n (rows.set j ((rows.getD j []).set m d))))) En := q
      refine h.go (r.step x1) (((q.post r).bind.step x1).mono fun dk q u Z2 H2 x2 r2 => ?_)
      cases dk with
      | int k =>
        cases r2
        have q : SPost X W Z0 H0 Z (Out.of (oR (ixN rows.length k)) ρ fun j => Out.of (G ρ >>= asI) ρ fun k => Out.of (oR (ixN (rows.getD j []).length k)) ρ fun m => .nx (ρ.set i (.n (rows.set j ((rows.getD j []).set m d))))) En := q
        cases hj : ixN rows.length k with
        | none => rw [hj] at q; exact q.elim
        | some j =>
          rw [hj] at q
          have q : SPost X W Z0 H0 Z (Out.of (G ρ >>= asI) ρ fun k => Out.of (oR (ixN (rows.getD j []).length k)) ρ fun m => .nx (ρ.set i (.n (rows.set j ((rows.getD j []).set m d))))) En := q
          have x12 := x1.trans x2
          have no2 := no.ext x12
          obtain ⟨b, xs, hb, hat, hH, rds⟩ := no2.row hj
          refine ⟨_, _, _, _, rfl, rfl, .inl (.inl no2.ha), hat, ?_⟩
          refine hg.go (r.step x12) (((q.post r).bind.step x12).mono fun dm q w Z3 H3 x3 r3 => ?_)
          cases dm with
          | int m =>
            cases r3
            have q : SPost X W Z0 H0 Z (Out.of (oR (ixN (rows.getD j []).length m)) ρ fun m => .nx (ρ.set i (.n (rows.set j ((rows.getD j []).set m d))))) En := q
            cases hm : ixN (rows.getD j []).length m with
            | none => rw [hm] at q; exact q.elim
            | some l =>
              rw [hm] at q
              have x13 := x12.trans x3
              have no3 := no.ext x13
              refine ⟨b, xs, m, l, rfl, rfl, x3.hh _ _ hH, by rw [rds.length]; exact hm, ?_⟩
              refine q _ _ _ (Rep.mutateN (r.step x13) hr hl no3 h0 hb ?_) x13.zz
              exact RDs.set (r1.mono (x2.zz.trans x3.zz)) l (rds.mono x3.zz)
          | _ => exact q.elim
      | _ => exact q.elim
    | _ => exact q.elim
end
end PQ

/-! PQ.33: lists of own lists are frozen -/
namespace PQ
open PySem PySem.Spec PyProof.Rows L2
section
variable {X : Cx} {W : WX} {Z0 H0 Z H : Hp} {σ : St} {ρ : Rho} {st : Stmt} {S : ES}
def rowsD (rows : List (List D)) : D := .list (rows.map .list)
theorem Rep.freezeN {w : World} {K : PySem.W.Frag} (r : Rep w K Z0 H0 Z H σ ρ) {i : Nat} {rows : List (List D)} (h : ρ[i]? = some (.n rows)) : ∃ Z', Rep w K Z0 H0 Z' H σ (ρ.set i (.f (rowsD rows))) ∧ Same Z Z' := by
  obtain ⟨a, bs, h1, q, h0⟩ := r.getN h
  let Z' : Hp := fun b => if b ∈ a :: bs then H b else Z b
  have zin : ∀ b, b ∈ a :: bs → Z' b = H b := fun b hb => if_pos hb
  have zout : ∀ b, b ∉ a :: bs → Z' b = Z b := fun b hb => if_neg hb
  have s1 : Same Z Z' := fun b u e => by
    by_cases hb : b ∈ a :: bs
    · rw [(q.mem hb).1] at e; cases e
    · rw [zout b hb]; exact e
  have s2 : Same Z' H := fun b u e => by
    by_cases hb : b ∈ a :: bs
    · rw [zin b hb] at e; exact e
    · rw [zout b hb] at e; exact r.zh b u e
  have rd : RD w K Z' (.ref a) (rowsD rows) := by
    refine .lst (xs := bs.map .ref) (by rw [zin a List.mem_cons_self]; exact q.ha) (RDs.of_get (by rw [List.length_map, List.length_map]; exact q.ln) fun j v d e1 e2 => ?_)
    rw [List.getElem?_map, Option.map_eq_some_iff] at e1 e2
    obtain ⟨b, hb, rfl⟩ := e1
    obtain ⟨ds, hds, rfl⟩ := e2
    obtain ⟨xs, ds', g1, g2, g3, g4⟩ := q.it j b hb
    rw [hds] at g1
    cases g1
    exact .lst (by rw [zin b (List.mem_cons_of_mem _ (List.mem_of_getElem? hb))]; exact g3) (g4.mono s1)
  have g := r.one (Z' := Z') (H' := H) i (some (.ref a)) (.f (rowsD rows)) ⟨r.ext.hh, r.ext.zz.trans s1, s2, fun b u hb1 hb2 => ?_⟩ s1 (fun j c s b hj e1 e2 ow => ?_) ⟨_, rfl, rd⟩ (fun _ _ _ _ _ _ _ _ o => o)
  · refine ⟨Z', ?_, s1⟩
    have e := set_self σ i none
    rw [h1] at e
    have e : σ.set i (some (.ref a)) = σ := e
    rwa [e] at g
  · have hb : b ∉ a :: bs := fun hb => by rw [h0 b hb] at hb2; cases hb2
    rw [zout b hb]
    exact r.ext.nw b u hb1 hb2
  · refine ⟨?_, fun _ e => e⟩
    have hb : b ∉ a :: bs := fun hb => r.dj j i c _ s _ b hj e1 h1 e2 h ow (q.owns.mpr hb)
    rw [zout b hb]
    exact (r.keepsO j c s b e1 e2 ow).1
def frzN (i : Nat) (ρ : Rho) : Rho := match ρ[i]? with
  | some (.n rows) => ρ.set i (.f (rowsD rows))
  | _ => ρ
theorem Rep.frzN (r : Rep X.w X.K Z0 H0 Z H σ ρ) (i : Nat) : ∃ Z', Rep X.w X.K Z0 H0 Z' H σ (PQ.frzN i ρ) ∧ Same Z Z' := by
  unfold PQ.frzN
  split
  · rename_i d h
    exact r.freezeN h
  · exact ⟨Z, r, Same.refl _⟩
def sFrzN (i : Nat) (S : ES) : ES := fun ρ => S (frzN i ρ)
theorem es_frzN (i : Nat) (h : Es X W st S) : Es X W st (sFrzN i S) := by
  refine ⟨fun {Z0 H0 Z H σ ρ D} r q => ?_⟩
  obtain ⟨Z', r', s⟩ := r.frzN i
  exact h.go r' (SPost.step q s)
end
section
variable {X : Cx} {W : WX} {Z0 H0 Z H : Hp} {σ : St} {ρ : Rho} {st : Stmt} {S : ES}
variable {tg iter : Expr} {Fi : EI} {A : EG} {T : ET} {js : List Nat}
theorem es_setLcN {i : Nat} {y : Str} {py : Pos} {elt : Expr} {ifs : List Expr} {scope : Scope} {own : List (Str × Nat)} {pos spos : Pos} {F : EV} (hc : X.calm = true) (hN : X.N.Nodup) (hy : X.N[i]? = some y) (hyl : X.env.scope.names.lookup y = some .local)
    (hsw : swapsWith (.ListComp elt [⟨tg, iter, ifs, 0⟩] scope pos) (some (.Name y py)) spos.line X.env = pure true) (hi : Ei X W tg iter Fi) (ok : BlkOk X.N X.env.scope scope own)
    (hg : ∀ (s : Shared) (H : Hp) (C : Addr) (cl : List (Str × Addr)) (fp : List Addr), Eg (X.blk s H scope (compEnvC scope cl C X.env) fp) tg A js) (hjs : ∀ j ∈ js, j ∈ own.map (·.2))
    (ht : ∀ (s : Shared) (H : Hp) (C : Addr) (cl : List (Str × Addr)) (fp : List Addr), Ets (X.blk s H scope (compEnvC scope cl C X.env) fp) ifs T)
    (he : ∀ (s : Shared) (H : Hp) (C : Addr) (cl : List (Str × Addr)) (fp : List Addr), Eo (X.blk s H scope (compEnvC scope cl C X.env) fp) WF elt F) (hs : ∀ x, foldedSetIterable iter X.env x = pure x := by intro _; rfl) :
    Es X W (.Assign [.Name y py] (.ListComp elt [⟨tg, iter, ifs, 0⟩] scope pos) spos) (sSet i (mN (eCompN Fi A T F (own.map (·.2))))) := by
  refine ⟨fun {Z0 H0 Z H σ ρ En} r q => toAtS (ps_setLc (g := fun v σ H Q => ∀ s H0 C cl fp, PGat (X.blk s H0 scope (compEnvC scope cl C X.env) fp) tg v σ H Q)
    (tt := fun σ H Q => ∀ s H0 C cl fp, PTsat (X.blk s H0 scope (compEnvC scope cl C X.env) fp) ifs σ H Q)
    (te := fun σ H Q => ∀ s H0 C cl fp, PEat (X.blk s H0 scope (compEnvC scope cl C X.env) fp) elt σ H Q) hc hN hy hyl hsw pi_at ok ?_ ?_ ?_ hs) ?_⟩
  · exact fun s H C cl fp => ⟨fun pins s' σ H' v u Q I rv h => (h s H C cl fp) pins s' u I rv⟩
  · exact fun s H C cl fp => ⟨fun pins s' σ H' Q I h => pts_at.run pins s' σ H' Q I (h s H C cl fp)⟩
  · exact fun s H C cl fp => ⟨fun pins s' σ H' Q I h => (h s H C cl fp) pins s' I⟩
  · refine lc_readN hi hg hjs ht he r (Q := fun x H1 => gName i x σ H1 En.nx) ?_
    have q := q.post r
    refine q.bind.mono fun ys hd a bs Z' H' x hn hb no => ?_
    exact hd _ _ _ (r.put x i ⟨a, bs, rfl, fun b m => by
      rcases List.mem_cons.mp m with rfl | m
      · exact hn
      · exact hb b m, no⟩) x.zz
end
end PQ

/-! PQ.34: sorted(d), list(d), len(d) of a dict -/
namespace PQ
open PySem PySem.Spec PyProof.Rows L2
open PySem.W (alike alikeAll dataLt rcLt_alike AllAlike Sortable SortsAt EachIs copyHeap sortingHeap dataLe dataKind sortVals)

section
variable {prog : Program} {w : World} {A : Around} {E : Value → Shared → Prop} {s : Shared}
/-- what collect(v) leaves, in any heap that keeps what was there -/
def CollectsK (prog : Program) (w : World) (s : Shared) (v : Value) (vs : List Value) : Prop := ∀ (A : Around) (E : Value → Shared → Prop) (Q : List Value → Shared → Prop), A.handled = none →
  (∀ (h' : Heap) (tk : Nat), (∀ b o, s.heap.get? b = some o → h'.get? b = some o) → Q vs { s with heap := h', toks := tk }) → wpAny (model prog w) A (collect v) Q E s
theorem keys_of {es : Array DictEntry} {acc : Array Value} (it : PySem.ItemsOf (fun i v => ∃ en : DictEntry, es[i]? = some en ∧ v = en.key) acc es.size) : acc.toList = es.toList.map (·.key) := by
  have hl : acc.toList.length = es.size := by rw [Array.length_toList, it.1]
  apply List.ext_getElem?
  intro j
  rw [List.getElem?_map]
  cases hj : acc.toList[j]? with
  | none =>
    have h1 := List.getElem?_eq_none_iff.mp hj
    rw [List.getElem?_eq_none (by rw [Array.length_toList]; omega)]
    rfl
  | some v =>
    obtain ⟨en, hen, hv⟩ := it.2 j v (by rw [← Array.getElem?_toList]; exact hj)
    rw [Array.getElem?_toList, hen, hv]
    rfl
theorem collects_dict {a : Addr} {o : Obj} {es : Array DictEntry} {ep : Nat} (lo : (a == sysModules) = false) (hg : s.heap.get? a = some o) (hx : o.ExactDict) (hd : o.data = .dict es ep) (hz : es.size ≤ sizeLine) : CollectsK prog w s (.ref a) (es.toList.map (·.key)) :=
  fun A E Q hh h => PySem.W.kdu_collect (kdl_raw lo hx hd) hh hg hz fun h' tk acc hk it => by
    rw [keys_of it]
    exact h h' tk hk
theorem sorted_dsK {v : Value} {vs : List Value} {ds : List D} {R : Value → D → Prop} {Q : Value → Shared → Prop} (hh : A.handled = none) (hcol : CollectsK prog w s v vs) (e : EachIs R vs ds) (er : EachIs (fun v d => ∃ as, Reads s.heap v d as) vs ds) (hal : AllAlike ds) (hk : Sortable ds ∨ (ds.length ≤ 1 ∧ ∀ d ∈ ds, d ≠ .none)) (hL : ds.length ≤ sizeLine)
    (hu : ∀ d, d ∈ ds → A.units + 2 + d.depth < cLine)
    (h : ∀ (out : List Value) (h' : Heap) (tk : Nat), (∀ b o, s.heap.get? b = some o → h'.get? b = some o) → out.length = ds.length → EachIs R out (ds.mergeSort (dataLe false id)) → Q (.ref h'.objs.size) { s with heap := sortedHeap (h'.push (seqObj "list" vs.toArray 0)) h'.objs.size vs out.toArray, toks := tk }) :
    wpAny (model prog w) A (call (.builtin "sorted") [v]) Q E s := by
  have hL' : vs.length ≤ sizeLine := by rw [e.length]; exact hL
  refine PySem.Calls.call_function_entry kind_sorted plain_sorted entry_sorted (args_sorted1 _) ?_
  unfold Builtin.«sorted»
  refine wpAny_bind (m := checkCount "sorted" 1 1 _) (wpAny_pure ?_)
  refine wpAny_bind (hcol _ _ _ hh fun h' tk kp => ?_)
  refine wpAny_bind (wpAny_newList ?_ hL')
  have hoL : (h'.push (seqObj "list" vs.toArray 0)).get? h'.objs.size = some (seqObj "list" vs.toArray 0) := Heap.get?_push_size _ rfl
  show wpAny _ _ _ _ _ { s with heap := h'.push (seqObj "list" vs.toArray 0), toks := tk }
  have er2 : EachIs (fun v d => ∃ as, Reads (sortingHeap (h'.push (seqObj "list" vs.toArray 0)) h'.objs.size vs) v d as) vs ds := er.mono fun _ _ ⟨as, r⟩ => ⟨as, Reads.keeps (fun b o eb => PySem.W.sortingHeap_old (Nat.ne_of_lt (Heap.lt_size (kp b o eb))) (Heap.get?_push_of_some _ (kp b o eb))) r⟩
  have S : SortsAt prog w A.in1.in1 { s with heap := sortingHeap (h'.push (seqObj "list" vs.toArray 0)) h'.objs.size vs, toks := tk } (dataKind (sortingHeap (h'.push (seqObj "list" vs.toArray 0)) h'.objs.size vs) ds) vs :=
    SortsAt.keepU (s := { s with heap := sortingHeap (h'.push (seqObj "list" vs.toArray 0)) h'.objs.size vs, toks := tk }) er2 hal hk fun d hd => hu d hd
  refine wpAny_bind (wpAny_holding (wpAny_call_entry_kw slot_list_sort ⟨_, hoL, rfl⟩ entry_list_sort ?body (args_list_sort _)))
  case body =>
    show wpAny (model prog w) A.in1.in1 (Builtin.«list.sort» ⟨[.ref h'.objs.size], []⟩) _ _ _
    refine PySem.W.list_sort_vals (s := { s with heap := h'.push (seqObj "list" vs.toArray 0), toks := tk }) hoL S hL' ⟨_, rfl, wpAny_pure ⟨_, rfl, ?_⟩⟩
    have hm : ds.map id = ds := List.map_id ds
    have out := PySem.W.sortVals_data (h' := sortingHeap (h'.push (seqObj "list" vs.toArray 0)) h'.objs.size vs) (enc := id) false e er2 (by rw [hm]; exact hal)
    rw [hm] at out
    exact h _ h' tk kp (by rw [PySem.W.sortVals_length false rfl]; exact e.length) out
end
theorem rde_keys {w : World} {K : PySem.W.Frag} {Z : Hp} : ∀ {l : List DictEntry} {kvs : List (D × D)}, RDE w K Z l kvs → ∃ xs, Vals xs (l.map (·.key)) ∧ RDs w K Z xs (kvs.map (·.1))
  | _, _, .nil => ⟨[], .nil, .nil⟩
  | _, _, .cons h1 h2 h3 h4 r1 r2 t => by
    obtain ⟨xs, p1, p2⟩ := rde_keys t
    exact ⟨_ :: xs, .cons h3 p1, .cons r1 p2⟩
def keysD (kvs : List (D × D)) : List D := kvs.map (·.1)
def dSortedD : List D → R D
  | [.dict kvs] => guardR (sortOk (keysD kvs)) (.list (sortL (keysD kvs)))
  | ds => dSorted ds
theorem cl_sortedD (x : List D) : (dSortedD x).clean := by
  unfold dSortedD
  split
  · exact clean_guard _ _
  · exact cl_sorted x
def dListD : List D → R D
  | [.dict kvs] => .ok (.list (keysD kvs))
  | [.str z] => guardR (fits z.length) (.list (signs z))
  | ds => dList ds
theorem cl_listD (x : List D) : (dListD x).clean := by
  unfold dListD
  split
  · trivial
  · exact clean_guard _ _
  · exact cl_list x
def dLenD : List D → R D
  | [.dict kvs] => guardR (okKs (keysD kvs)) (.int kvs.length)
  | ds => dLen ds
theorem cl_lenD (x : List D) : (dLenD x).clean := by
  unfold dLenD
  split
  · exact clean_guard _ _
  · exact cl_len x
section
variable {X : Cx} {W : WX} {a b c e : Expr} {es rest : List Expr} {pos p : Pos} {F G I : EV} {T U : ET} {Fs : EA}
def rDict (w : World) (K : PySem.W.Frag) (ok : List D → Prop) (R : Hp → List (D × D) → Hp → VK → Prop) : List V → Hp → VK → Prop := fun vs H Q => ∃ (Z : Hp) (v : V) (kvs : List (D × D)), vs = [v] ∧ Same Z H ∧ RD w K Z v (.dict kvs) ∧ ok (keysD kvs) ∧ R Z kvs H Q
def rSortDD (X : Cx) : List V → Hp → VK → Prop := rDict X.w X.K (fun ds => sortOk ds = true) fun Z kvs H Q => ∀ ys l, RDs X.w X.K Z ys (sortL (keysD kvs)) → H l = none → Q (.ref l) (upd H l (.lst ys))
theorem cr_sortedDD (hc : X.calm = true) (hu : HasRoom X) : CallR X (.builtin "sorted") (rSortDD X) := by
  intro pins s σ H vs us Q I r h
  obtain ⟨Z, v, kvs, rfl, sz, rd, ok, q⟩ := h
  obtain ⟨a, rfl, da⟩ := rd_dict I sz rd
  obtain ⟨k1, k2, k3, k4, k5⟩ := sortOk_of ok
  rw [Vals.ref1 r]
  obtain ⟨o, es, ep, g1, g2, g3, g4⟩ := da.at'
  obtain ⟨xs, rv, rdk⟩ := rde_keys g4
  have hlen : es.size ≤ sizeLine := by
    have e1 : xs.length = es.size := (Paired.length rv).trans (by rw [List.length_map, Array.length_toList])
    have e2 : xs.length = (keysD kvs).length := rdk.length
    rw [← e1, e2]; exact k1
  refine sorted_dsK (A := X.A) (I.ok.hd hc) (collects_dict da.sys g1 g2 g3 hlen) (each_rd rv rdk) (each_reads I rv ((rdk.mono sz).dp (plain_noDicts _ k2))) k3 k4 k1 (fun d hd => ?_) fun out h' tk kp h1 h2 => ?_
  · have := depth_mem hd
    have hu : X.A.units + 100 < cLine := hu
    show X.A.units + 2 + d.depth < cLine
    have : d.depth ≤ 60 := Nat.le_trans this k5
    omega
  · obtain ⟨ys, r2, rd2⟩ := rd_each h2
    have I1 : Inv X pins σ H { s with heap := h', toks := tk } := I.kept kp
    have hoL : (h'.push (seqObj "list" (es.toList.map (·.key)).toArray 0)).get? h'.objs.size = some (seqObj "list" (es.toList.map (·.key)).toArray 0) := Heap.get?_push_size _ rfl
    obtain ⟨e', he'⟩ := sortedHeap_at (vs := es.toList.map (·.key)) (out := out.toArray) hoL
    have hl : ys.length ≤ sizeLine := by rw [r2.length, h1]; exact k1
    refine ⟨.ref _, upd H h'.objs.size (.lst ys), I1.laid (t' := tk) (fun b u eb => ?_) (Nat.le_refl _) ⟨hl, out, e', r2, he'⟩, rfl, q _ _ rd2 (I1.hok.fresh (Nat.le_refl _))⟩
    have hb : b < h'.objs.size := Heap.lt_size eb
    rw [sortedHeap_old (Nat.ne_of_lt hb) (by rw [size_push']; exact Nat.lt_succ_of_lt hb)]
    exact Heap.get?_push_of_some _ eb
theorem co_sortedD : CaO X (fun xs H Q => rSortDD X xs H Q ∨ rSortD X.w X.K xs H Q) dSortedD := by
  intro Z H xs ds Q s r h
  unfold dSortedD at h
  split at h
  · obtain ⟨v, rfl, r0⟩ := rds1 r
    obtain ⟨ok, h⟩ := h.guard
    refine .inl ⟨Z, v, _, rfl, s, r0, ok, fun ys l rd hl => ?_⟩
    exact h l Z _ (Ext.newO s hl) hl (.lst (zfree s hl) upd_same rd)
  · exact .inr (co_sorted Z H xs ds Q s r h)
theorem eo_sortedD (hc : X.calm = true) (hu : HasRoom X) (hm : X.mg "sorted" = none) (ha : Ea X W [a] Fs) (hg : Gl X "sorted" := by rfl) : Eo X W (.Call (.Name "sorted" p) [a] [] pos) (eA dSortedD Fs) :=
  eo_A (fun h => pe_callB ((cr_sortedDD hc hu).or (cr_sortedD hu)) hg hm boot_sorted h (he := ha.se _ _ rfl) (hpl := ha.plt _ _ rfl _)) co_sortedD cl_sortedD ha
/-! ### list(d) -/
def rListDD (X : Cx) : List V → Hp → VK → Prop := rDict X.w X.K (fun ds => True) fun Z kvs H Q => ∀ ys l, RDs X.w X.K Z ys (keysD kvs) → H l = none → Q (.ref l) (upd H l (.lst ys))
theorem cr_listDD (hc : X.calm = true) : CallR X (.type "list") (rListDD X) := by
  intro pins s σ H vs us Q I r h
  obtain ⟨Z, v, kvs, rfl, sz, rd, ok, q⟩ := h
  obtain ⟨a, rfl, da⟩ := rd_dict I sz rd
  rw [Vals.ref1 r]
  have hz := da.len
  obtain ⟨o, es, ep, g1, g2, g3, g4⟩ := da.at'
  obtain ⟨xs, rv, rdk⟩ := rde_keys g4
  have e1 : xs.length = es.size := (Paired.length rv).trans (by rw [List.length_map, Array.length_toList])
  have e2 : xs.length = kvs.length := rdk.length.trans (List.length_map ..)
  refine PySem.W.kdl_call (kdl_raw da.sys g2 g3) (I.ok.hd hc) g1 (by omega) fun h' tk acc' c' kp e it => ?_
  have ea := keys_of it
  refine ⟨.ref s.heap.objs.size, _, I.laid (t' := tk) (o := .lst xs) kp (Nat.le_refl _) ?_, rfl, q _ _ rdk (I.hok.fresh (Nat.le_refl _))⟩
  exact ⟨by omega, acc'.toList, c', by rw [ea]; exact rv, by rw [Array.toArray_toList]; exact e⟩
theorem rds_signs {w : World} {K : PySem.W.Frag} {Z : Hp} : ∀ l : List Nat, RDs w K Z (l.map fun c => .str ⟨#[c]⟩) (l.map fun c => .str ⟨#[c]⟩)
  | [] => .nil
  | _ :: l => .cons (.str _) (rds_signs l)
def rListStr : List V → Hp → VK → Prop := fun vs H Q => ∃ z, vs = [.str z] ∧ z.length ≤ sizeLine ∧ ∀ l, H l = none → Q (.ref l) (upd H l (.lst (signsV z)))
theorem signs_vals {z : Str} {acc : Array Value} (h : PySem.ItemsOf (SignAt z) acc z.cps.size) : Vals (signsV z) acc.toList := by
  have key : ∀ (l : List Nat) (vs : List Value), vs.length = l.length → (∀ (j : Nat) (v : Value), vs[j]? = some v → ∃ c u, l[j]? = some c ∧ v = .str ⟨#[c]⟩ u) → Vals (l.map fun c => V.str ⟨#[c]⟩) vs := by
    intro l
    induction l with
    | nil => intro vs h _; cases vs with | nil => exact .nil | cons => simp at h
    | cons c l ih =>
      intro vs h f
      cases vs with
      | nil => simp at h
      | cons v vs =>
        obtain ⟨c', u, h1, h2⟩ := f 0 v rfl
        cases h1
        exact .cons ⟨u, h2⟩ (ih vs (by simpa using h) fun j v' hj => f (j + 1) v' hj)
  exact key _ _ (by rw [Array.length_toList, h.1, Array.length_toList]) fun j v hv => by
    obtain ⟨c, u, h1, h2⟩ := h.2 j v (by rw [← Array.getElem?_toList]; exact hv)
    exact ⟨c, u, by rw [Array.getElem?_toList]; exact h1, h2⟩
theorem cr_listStr (hc : X.calm = true) : CallR X (.type "list") rListStr := by
  intro pins s σ H vs us Q I r h
  obtain ⟨z, rfl, hz, q⟩ := h
  obtain ⟨u, rfl, rx⟩ := vals1 r
  obtain ⟨t, rfl⟩ := (show ∃ t, u = Value.str z t from rx)
  refine call_list_str (I.ok.hd hc) z t (hn := hz) fun h' tk acc' c' kp e it => ?_
  refine ⟨.ref s.heap.objs.size, _, I.laid (t' := tk) (o := .lst (signsV z)) kp (Nat.le_refl _) ?_, rfl, q _ (I.hok.fresh (Nat.le_refl _))⟩
  refine ⟨?_, acc'.toList, c', signs_vals it, by rw [Array.toArray_toList]; exact e⟩
  unfold signsV
  rw [List.length_map, Array.length_toList]
  exact hz
theorem co_listD : CaO X (fun xs H Q => rListDD X xs H Q ∨ rListOf X.K xs H Q ∨ rListStr xs H Q) dListD := by
  intro Z H xs ds Q s r h
  unfold dListD at h
  split at h
  · obtain ⟨v, rfl, r0⟩ := rds1 r
    refine .inl ⟨Z, v, _, rfl, s, r0, trivial, fun ys l rd hl => ?_⟩
    exact h l Z _ (Ext.newO s hl) hl (.lst (zfree s hl) upd_same rd)
  · obtain ⟨v, rfl, r0⟩ := rds1 r
    obtain ⟨hf, h⟩ := h.guard
    cases r0
    exact .inr (.inr ⟨_, rfl, fits_le hf, fun l hl => h l Z _ (Ext.newO s hl) hl (.lst (zfree s hl) upd_same (rds_signs _))⟩)
  · exact .inr (.inl (co_list Z H xs ds Q s r h))
theorem eo_listD (hc : X.calm = true) (hm : X.mg "list" = none) (ha : Ea X W [a] Fs) (hg : Gl X "list" := by rfl) : Eo X W (.Call (.Name "list" p) [a] [] pos) (eA dListD Fs) :=
  eo_A (fun h => pe_callTy ((cr_listDD hc).or (call_list_of.or (cr_listStr hc))) hg hm boot_list h (he := ha.se _ _ rfl) (hpl := ha.plt _ _ rfl _)) co_listD cl_listD ha
/-! ### len(d) -/
def rLenDD (X : Cx) : List V → Hp → VK → Prop := rDict X.w X.K (fun ds => okKs ds = true) fun Z kvs H Q => Q (.int kvs.length) H
theorem cr_lenDD : CallR X (.builtin "len") (rLenDD X) := by
  intro pins s σ H vs us Q I r h
  obtain ⟨Z, v, kvs, rfl, sz, rd, ok, q⟩ := h
  obtain ⟨a, rfl, da⟩ := rd_dict I sz rd
  rw [Vals.ref1 r]
  have hz := da.len
  rw [sizeLine_eq] at hz
  unfold okKs keysD at ok
  rw [Bool.or_eq_true, List.all_eq_true, List.all_eq_true] at ok
  rcases ok with f | f
  · obtain ⟨vs, dd, rel⟩ := da.flat (P := X.prog) fun p hp => f _ (List.mem_map_of_mem hp)
    have hl : kvs.length = vs.length := Paired.length rel
    refine call_len_dict da.sys dd (by omega) ⟨.int kvs.length, H, I.tok _, ?_, q⟩
    rw [hl]; exact ⟨_, rfl⟩
  · obtain ⟨vs, dd, rel⟩ := da.tup I sz fun p hp => f _ (List.mem_map_of_mem hp)
    have hl : kvs.length = vs.length := Paired.length rel
    refine call_len_dictH da.sys dd (by omega) ⟨.int kvs.length, H, I.tok _, ?_, q⟩
    rw [hl]; exact ⟨_, rfl⟩
theorem cd_lenD : CaD X (fun xs H Q => rLenDD X xs H Q ∨ rLenAll X.K xs H Q) dLenD := by
  intro Z H xs ds Q s r h
  unfold dLenD at h
  split at h
  · obtain ⟨v, rfl, r0⟩ := rds1 r
    obtain ⟨ok, h⟩ := h.guard
    exact .inl ⟨Z, v, _, rfl, s, r0, ok, h _ _ _ (Ext.refl s) (.int _)⟩
  · exact .inr (cd_len Z H xs ds Q s r h)
theorem ev_lenD (hm : X.mg "len" = none) (ha : Ea X W [a] Fs) (hg : Gl X "len" := by rfl) : Ev X W (.Call (.Name "len" p) [a] [] pos) (eA dLenD Fs) :=
  ev_A (fun h => pe_callB (cr_lenDD.or (call_len_seq.or call_len_str)) hg hm PySem.boot_len h (he := ha.se _ _ rfl) (hpl := ha.plt _ _ rfl _)) cd_lenD cl_lenD ha
/-! ### membership and is, as tests -/
theorem et_inD (hu : HasRoom X) (ha : Ev X W a F) (hb : Ev X W b G) (hm : behindInMarks .In b = false := by rfl) : Et X W (.Compare a [.In] [b] pos) (tV (e2 dInD F G)) := et_2 (OpR.or (op_inP hu) (op_dIn hu false)) od_inD cl_inD ha hb hm
theorem et_notInD (hu : HasRoom X) (ha : Ev X W a F) (hb : Ev X W b G) (hm : behindInMarks .NotIn b = false := by rfl) : Et X W (.Compare a [.NotIn] [b] pos) (tV (e2 dNotInD F G)) := et_2 (OpR.or (op_notInP hu) (op_dIn hu true)) od_notInD cl_notInD ha hb hm
theorem et_isB (ha : Ev X W a F) (hb : Ev X W b G) (hm : behindInMarks .Is b = false := by rfl) : Et X W (.Compare a [.Is] [b] pos) (tV (e2 dIsB F G)) := et_2 op_isBl od_isB cl_isB ha hb hm
theorem et_notB (ha : Ev X W a F) (hb : Ev X W b G) (hm : behindInMarks .IsNot b = false := by rfl) : Et X W (.Compare a [.IsNot] [b] pos) (tV (e2 dNotB F G)) := et_2 op_notBl od_notB cl_notB ha hb hm
end
end PQ

/-! PQ.35: how the denotations of Q22 to Q34 compute -/
namespace PQ
open PySem PySem.Spec PyProof.Rows L2
open PySem.W (alike alikeAll dataLt dataLe)

@[simp] theorem x_ixDL (ds : List D) (i : Int) : dIxD (.list ds) (.int i) = oR (atI ds i) := x_ixL ds i
@[simp] theorem x_ixDT (ds : List D) (i : Int) : dIxD (.tuple ds) (.int i) = oR (atI ds i) := x_ixT ds i
theorem x_ixDS (z : Str) (i : Int) : dIxD (.str z) (.int i) = (oR (atI z.cps.toList i) >>= fun c => guardR (fits z.length) (PyData.str ⟨#[c]⟩)) := x_ixS z i
theorem x_ixDD {kvs : List (D × D)} {k d : D} (h : okK kvs k = true) (h2 : dFind kvs k = some d) : dIxD (.dict kvs) k = .ok d := by
  show (match okK kvs k, dFind kvs k with
    | true, some d => R.ok d
    | _, _ => .stuck) = _
  rw [h, h2]
@[simp] theorem x_inDD (kvs : List (D × D)) (k : D) : dInD k (.dict kvs) = guardR (okK kvs k) (.bool (dFind kvs k).isSome) := by unfold dInD; rfl
@[simp] theorem x_notInDD (kvs : List (D × D)) (k : D) : dNotInD k (.dict kvs) = guardR (okK kvs k) (.bool (!(dFind kvs k).isSome)) := by unfold dNotInD; rfl
@[simp] theorem x_inDS (c : Nat) (z : Str) : dInD (.str ⟨#[c]⟩) (.str z) = .ok (.bool (decide (c ∈ z.cps.toList))) := id rfl
@[simp] theorem x_notInDS (c : Nat) (z : Str) : dNotInD (.str ⟨#[c]⟩) (.str z) = .ok (.bool (!decide (c ∈ z.cps.toList))) := id rfl
theorem x_inDT (d : D) (xs : List D) (hd : tyName d ≠ "dict") : dInD d (.tuple xs) = guardR (inOk xs d) (.bool (xs.any fun y => PyData.eqv y d)) := by
  cases d <;> first | rfl | exact absurd rfl hd
@[simp] theorem x_notInT (d : D) (xs : List D) : dNotInD d (.tuple xs) = dNotIn d (.tuple xs) := by cases d <;> rfl
@[simp] theorem x_inT (d : D) (xs : List D) : dInD d (.tuple xs) = dIn d (.tuple xs) := by cases d <;> rfl
@[simp] theorem x_notInL (d : D) (xs : List D) : dNotInD d (.list xs) = dNotIn d (.list xs) := by cases d <;> rfl
@[simp] theorem x_inL (d : D) (xs : List D) : dInD d (.list xs) = dIn d (.list xs) := by cases d <;> rfl
@[simp] theorem x_dLenDL (ds : List D) : dLenD [.list ds] = .ok (.int ds.length) := id rfl
@[simp] theorem x_dLenDT (ds : List D) : dLenD [.tuple ds] = .ok (.int ds.length) := id rfl
@[simp] theorem x_dLenDS (z : Str) : dLenD [.str z] = guardR (fits z.length) (.int z.length) := id rfl
@[simp] theorem x_dLenDD (kvs : List (D × D)) : dLenD [.dict kvs] = guardR (okKs (keysD kvs)) (.int kvs.length) := id rfl
@[simp] theorem x_dListDL (ds : List D) : dListD [.list ds] = .ok (.list ds) := id rfl
@[simp] theorem x_dListDT (ds : List D) : dListD [.tuple ds] = .ok (.list ds) := id rfl
@[simp] theorem x_dListDS (z : Str) : dListD [.str z] = guardR (fits z.length) (.list (signs z)) := id rfl
@[simp] theorem x_dListDD (kvs : List (D × D)) : dListD [.dict kvs] = .ok (.list (keysD kvs)) := id rfl
@[simp] theorem x_dSortDD (kvs : List (D × D)) : dSortedD [.dict kvs] = guardR (sortOk (keysD kvs)) (.list (sortL (keysD kvs))) := id rfl
@[simp] theorem x_dSortDL (ds : List D) : dSortedD [.list ds] = guardR (sortOk ds) (.list (sortL ds)) := id rfl
@[simp] theorem x_dSortDT (ds : List D) : dSortedD [.tuple ds] = guardR (sortOk ds) (.list (sortL ds)) := id rfl
@[simp] theorem x_dSortL (ds : List D) : dSorted [.list ds] = guardR (sortOk ds) (.list (sortL ds)) := id rfl
@[simp] theorem x_dTupleL (ds : List D) : dTuple [.list ds] = .ok (.tuple ds) := id rfl
@[simp] theorem x_dTupleT (ds : List D) : dTuple [.tuple ds] = .ok (.tuple ds) := id rfl
@[simp] theorem x_eM (Ty : String) (f : D → List D → R D) (F : EV) (Fs : EA) (ρ : Rho) : eM Ty f F Fs ρ = (F ρ >>= fun d => if tyName d = Ty then Fs ρ >>= fun ds => f d ds else .stuck) := id rfl
@[simp] theorem x_dict0 (ρ : Rho) : eDict0 ρ = .ok (.dict []) := id rfl
@[simp] theorem x_disp1 (F G : EV) (ρ : Rho) : eDisp [(F, G)] ρ = (F ρ >>= fun k => G ρ >>= fun v => guardR (okKs [k]) (PyData.dict [(k, v)])) := by
  show (evPs [(F, G)] ρ >>= _) = _
  unfold evPs
  cases F ρ with
  | ok k =>
    cases G ρ with
    | ok v => rfl
    | exc x => rfl
    | stuck => rfl
  | exc x => rfl
  | stuck => rfl
@[simp] theorem x_slDct (kvs : List (D × D)) : slDct (some (.o (.dict kvs))) = .ok kvs := id rfl
@[simp] theorem x_sSetD (i : Nat) (F G : EV) (ρ : Rho) : sSetD i F G ρ = Out.of (F ρ) ρ fun d => Out.of (slDct ρ[i]?) ρ fun kvs => Out.of (G ρ) ρ fun k => Out.of (guardR (okK kvs k && fits (kvs.length + 1)) kvs) ρ fun _ => .nx (ρ.set i (.o (.dict (dPutL kvs k d)))) := id rfl
@[simp] theorem x_sPar3 (i j l : Nat) (F G I : Rho → R Sl) (ρ : Rho) : sPar3 i j l F G I ρ = Out.of (F ρ) ρ fun s => Out.of (G ρ) ρ fun t => Out.of (I ρ) ρ fun u => .nx (((ρ.set i s).set j t).set l u) := id rfl
@[simp] theorem x_slN (rows : List (List D)) : slN (some (.n rows)) = .ok rows := id rfl
@[simp] theorem x_eNix (i : Nat) (F G : EV) (ρ : Rho) : eNix i F G ρ = (slN ρ[i]? >>= fun rows => F ρ >>= asI >>= fun r => oR (ixN rows.length r) >>= fun j => G ρ >>= asI >>= fun k => oR (atI (rows.getD j []) k)) := id rfl
@[simp] theorem x_sSetN (i : Nat) (F G I : EV) (ρ : Rho) : sSetN i F G I ρ = Out.of (I ρ) ρ fun d => Out.of (slN ρ[i]?) ρ fun rows => Out.of (F ρ >>= asI) ρ fun r => Out.of (oR (ixN rows.length r)) ρ fun j => Out.of (G ρ >>= asI) ρ fun k => Out.of (oR (ixN (rows.getD j []).length k)) ρ fun m => .nx (ρ.set i (.n (rows.set j ((rows.getD j []).set m d)))) := id rfl
@[simp] theorem x_sFrzN (i : Nat) (S : ES) (ρ : Rho) : sFrzN i S ρ = S (frzN i ρ) := id rfl
theorem frzN_n {i : Nat} {ρ : Rho} {rows : List (List D)} (h : ρ[i]? = some (.n rows)) : frzN i ρ = ρ.set i (.f (rowsD rows)) := by unfold frzN; rw [h]
@[simp] theorem x_mN (F : EA) (ρ : Rho) : mN F ρ = (F ρ >>= fun ys => .ok (.n (ys.map rowD))) := id rfl
@[simp] theorem x_eCompN (Fi : EI) (A : EG) (T : ET) (F : EV) (vs : List Nat) (ρ : Rho) : eCompN Fi A T F vs ρ = (Fi ρ >>= fun ds => guardR (fits ds.length) ds >>= fun ds => nx (compR (cStep A T (eLs F) (wipeR ρ vs)) ds) >>= fun ys => .ok ys) := id rfl
@[simp] theorem x_sRaise (n : Str) (ρ : Rho) : sRaise n ρ = .exc ⟨n, []⟩ ρ := id rfl
@[simp] theorem x_dRevL (ds : List D) : dRev (.list ds) = .ok (.list ds.reverse) := id rfl
@[simp] theorem x_dRevT (ds : List D) : dRev (.tuple ds) = .ok (.tuple ds.reverse) := id rfl
@[simp] theorem x_dRevS (z : Str) : dRev (.str z) = guardR (fits z.length) (.str (revS z)) := id rfl
@[simp] theorem ofexc {α : Type} (x : Exc) (ρ : Rho) (k : α → Out) : Out.of (.exc x) ρ k = .exc x ρ := id rfl
theorem x_ofok {α : Type} (a : α) (ρ : Rho) (k : α → Out) : Out.of (.ok a) ρ k = k a := id rfl
/-- a tuple of ints and texts: when two are equal -/
theorem join_nil (ds : List D) : dJoin (.str "") [.list ds] = joinD "" ds := id rfl
theorem strsOf_map (xs : List Str) : strsOf (xs.map .str) = some xs := by
  induction xs with
  | nil => rfl
  | cons x xs ih => show (strsOf (xs.map .str)).map (x :: ·) = _; rw [ih]; rfl
theorem joinD_map (a : Str) (xs : List Str) (h : joinOk a xs = true) : joinD a (xs.map .str) = .ok (.str (Txt.join a xs)) := by
  unfold joinD
  rw [strsOf_map]
  exact guardR_of h _
end PQ

/-! PQ.36: an own exception whose __init__ says super().__init__(text + str(x)); self.x = x -/
namespace PQ
open PySem PySem.Spec PyProof.Rows L2 NdefX
open PySem.W (KxsFacts kxs_ValueError kxs_mw kxs_getMethod kxs_callWith KxsAt check_bound_init exc_init_tree excTup excRec)

section
variable {X : Cx} {pins : List (Addr × Obj)} {σ : St} {H : Hp} {s : Shared}
theorem inv_pin (I : Inv X pins σ H s) {u : Addr} {o : Obj} (h1 : s.heap.get? u = some o) (h2 : H u = none) (h3 : u ≠ X.env.locals) (h4 : u ∉ X.fs) (h5 : ∀ v, o.data ≠ .cell v) : Inv X ((u, o) :: pins) σ H s := by
  refine I.pins_of fun p hp => ?_
  rcases List.mem_cons.mp hp with rfl | hp
  · exact ⟨h1, h2, h3, h4, h5⟩
  · exact I.pin p (List.mem_append_right _ hp)
theorem inv_unpin {p : Addr × Obj} (I : Inv X (p :: pins) σ H s) : Inv X pins σ H s := I.pins_of fun q hq => I.pin q (List.mem_append_right _ (List.mem_cons_of_mem _ hq))
end
/-- the bound built-in __init__ called: the args are laid anew -/
theorem call_mw {prog : Program} {w : World} {A : Around} {E : Value → Shared → Prop} {h : Heap} {g : Array GenState} {d : Drawn} {t : Nat} {os : OsState}
    {nm q : Str} {C N : Addr} {bs bm : List Value} {sn : List Str} {sub : List Value} {ab : Bool} {col : Option Bool} {dd : Option Addr} {k0 k1 k2 k3 k5 : Option Value} {u e t0 : Addr} {rest : List Value} {Q : Value → Shared → Prop}
    (hC : h.get? C = some (excClassObj nm q C N bs bm true sn sub ab col dd k0 k1 k2 k3 k5 "ValueError.__new__")) (he : h.get? e = some ({ cls := .ref C, dict := none, data := .fields #[.ref t0, .none, .none, .none, .bool false, .none] } : Obj)) (hu : h.get? u = some (kxs_mw "ValueError.__init__" e)) (hrest : rest.length ≤ sizeLine)
    (hq : ∀ h' t1, (∀ b o, b ≠ e → h.get? b = some o → h'.get? b = some o) → h'.get? e = some ({ cls := .ref C, dict := none, data := .fields #[.ref t1, .none, .none, .none, .bool false, .none] } : Obj) → Q .none ⟨h', g, d, t, os⟩) :
    wpAny (model prog w) A (call (.ref u) rest) Q E ⟨h, g, d, t, os⟩ := by
  have FB := PySem.F.excBase_ValueError
  refine wpAny_call (codeAny_of_tree ?_)
  show wpAny _ A.in1 (callAny (.ref u) ⟨rest, []⟩) _ _ _
  simp only [callAny]
  refine wpAny_bind (wpAny_load hu ?_)
  have hmw : (Value.type "method-wrapper" == Value.type "method" || Value.type "method-wrapper" == Value.type "builtin_function_or_method" || Value.type "method-wrapper" == Value.type "method-wrapper") = true := by decide
  simp only [kxs_mw, hmw, if_true]
  refine PySem.W.KFB.if_so (by decide) ?_
  refine wpAny_bind (check_bound_init FB.toExcCallFacts hC he rfl ?_)
  refine wpAny_bind (wpAny_pure (wpAny_pure ?_))
  refine ⟨plainId_quiet FB.init.plain _, codeAny_builtin FB.initEntry ?_⟩
  exact exc_init_tree (cls := .ref C) (t0 := t0) (dv := none) (c2 := .none) (c3 := .none) (b4 := .bool false) he hrest fun h' k e' t' => hq h' _ k e'
theorem super_args {X : Cx} {pins : List (Addr × Obj)} {σ : St} {H : Hp} {s : Shared} {u a C : Addr} {arg : Expr} {p3 : Pos} {Q : Value → Shared → Prop} (T : OexC X.K C) (I : Inv X ((u, kxs_mw "ValueError.__init__" a) :: pins) σ H s) (ea : H a = some (exo a C none))
    (pa : PAat X [arg] σ H (fun vs H1 => Same H H1 ∧ ∃ t, vs = [.str t])) (hsp : starEach [arg] X.env = (false, eval arg X.env) :: starEach [] X.env)
    (hq : ∀ s' H1, Inv X pins σ H1 s' → Same H H1 → Q .none s') : wpAny (model X.prog X.w) X.A (callWith p3 (.ref u) [] (backTo p3 (starEach [arg] X.env)) []) Q X.xe s := by
  have h : wpAny (model X.prog X.w) X.A (spliced (backTo p3 (starEach [arg] X.env))) (fun us s1 => KxsAt "ValueError.__init__" u a s1.heap ∧ wpAny (model X.prog X.w) X.A (call (.ref u) us) Q X.xe s1) X.xe s := by
    refine thn (pa p3 _ _ I) fun us s1 hh => ?_
    obtain ⟨vs, H1, I1, r1, sm, t, rfl⟩ := hh
    have hpin := (I1.pin _ (List.mem_append_right _ List.mem_cons_self)).1
    refine ⟨hpin, ?_⟩
    have e1 := sm _ _ ea
    obtain ⟨nm, q, N, bs, bm, sn, sub, ab, col, dd, k0, k1, k2, k3, k5, hC, hbm⟩ := T.cls
    obtain ⟨t1, ho⟩ := exo_at I1.hok e1
    have hl : us.length = 1 := by
      have := Paired.length r1
      exact this.symm
    obtain ⟨hp, g, d, tk, os⟩ := s1
    refine call_mw (I1.kIn _ _ hC) ho hpin (by rw [hl, sizeLine_eq]; omega) fun h' t2 k hx => ?_
    have J := I1.write (t' := tk) (x := a) (e := a) (o := exo a C none) (by rw [e1]; exact True.intro) (.inl rfl) k ⟨_, hx⟩ (exo_ok hx)
    have eu : upd H1 a (exo a C none) = H1 := by
      funext b
      by_cases hb : b = a
      · rw [hb, upd_same, e1]
      · rw [upd_ne hb]
    rw [eu] at J
    exact hq _ _ (inv_unpin J) sm
  rw [hsp] at h ⊢
  exact kxs_callWith (i := "ValueError.__init__") (x := a) (by rfl) (Calls.evalArgs_plain h)
/-! ### __init__ -/
def strOk (i : Int) : Bool := match dStr [.int i] with
  | .ok (.str z) => fits z.length
  | _ => false
/-- what __init__ does: self is an exception in the making -/
def spInit (C : Addr) (fld : Str) (F : EV) : Sp := fun vs H Q E => ∃ (a : Addr) (i : Int) (t : Str), vs = [.ref a, .int i] ∧ H a = some (exo a C none) ∧ F [.u, .f (.int i), .u] = .ok (.str t) ∧
  ∀ dx H2, Same H H2 → H2 dx = none → dx ≠ a → Q .non (upd (upd H2 dx (exd dx [(fld, .int i)])) a (exo a C (some dx)))
/-- what the written part says -/
structure SupK (P : Program) (K : PySem.W.Frag) (mg : Str → Option Value) (C cc cda : Addr) (fld qual : Str) : Prop where
  oex : OexC K C
  cd : PySem.W.codeIn K (.ref cda) qual = true
  code : ∃ ccl cdd vs ccs file tf, K.lookup cda = some ⟨ccl, cdd, .fields vs, ccs⟩ ∧ vs[2]? = some (.str file tf) ∧ ((P.main.file : Str) == file) = true
  cell : ∃ cl cld csl, K.lookup cc = some ⟨cl, cld, .cell (some (.ref C)), csl⟩
  sub : PySem.W.mroIn K C (.ref C) = some true
  sup : mg "super" = none
  ini : PySem.W.ks_superIn K C C "__init__" = some (some (.builtin "ValueError.__init__"))
  ve : PySem.W.subIn K (.ref C) (.type "ValueError") = some true
  any : PySem.W.nsIn K cStatics "thirdparty.any" = some none
  fld : PySem.W.findIn K (.ref C) fld = some none
  top : (P.main.scope.names.lookup ("super" : Str)).isSome = false
abbrev supB (p0 p1 p2 p3 p4 q1 q2 q3 q4 : Pos) (x : Str) (arg : Expr) : List Stmt := [.Expr (.Call (.Attribute (.Call (.Name "super" p0) [] [] p1) "__init__" p2) [arg] [] p3) p4, .Assign [.Attribute (.Name "self" q1) x q2] (.Name x q3) q4]
section
variable {CX : CXT} {P : Program} {w : World} {K : PySem.W.Frag} {mg : Str → Option Value} {base : Heap}
variable {k : Nat} {f C cc cda : Addr} {name qual x : Str} {params : Arguments} {scope : Scope} {dV kV doc pm ct oc : Value} {an od : Option Addr} {osl : Array (Option Value)} {F : EV}
variable {p0 p1 p2 p3 p4 q1 q2 q3 q4 : Pos} {arg : Expr}
theorem init_ok (G : SupK P K mg C cc cda x qual)
    (lk : K.lookup f = some ⟨oc, od, .func (PySem.W.fnX name qual params (supB p0 p1 p2 p3 p4 q1 q2 q3 q4 x arg) scope [("__class__", cc)] dV kV doc pm an (.ref cda) ct), osl⟩)
    (S : NScope ["self", x, "__class__"] ["self", x] ["__class__"] scope) (hks : scope.names.lookup ("super" : Str) = some .globalImplicit) (hps : ∃ ar : Arg, (params.posonlyargs ++ params.args).head? = some ar ∧ ar.arg = "self")
    (hev : ∀ L : Addr, ∃ pl : Sem Bool, eval (.Call (.Attribute (.Call (.Name "super" p0) [] [] p1) "__init__" p2) [arg] [] p3) (PySem.W.envX qual scope L f (.ref cda) [("__class__", cc)]) = (do
      let ov ← attributeBase (.Call (.Name "super" p0) [] [] p1) "__init__" (PySem.W.envX qual scope L f (.ref cda) [("__class__", cc)]) (eval (.Call (.Name "super" p0) [] [] p1) (PySem.W.envX qual scope L f (.ref cda) [("__class__", cc)]))
      standAt p2.atName
      let (g, first) ← holding [ov] (getMethod ov "__init__" pl)
      callWith p3 g first (backTo p3 (starEach [arg] (PySem.W.envX qual scope L f (.ref cda) [("__class__", cc)]))) []))
    (hst : ∀ L : Addr, starEach [arg] (PySem.W.envX qual scope L f (.ref cda) [("__class__", cc)]) = (false, eval arg (PySem.W.envX qual scope L f (.ref cda) [("__class__", cc)])) :: starEach [] (PySem.W.envX qual scope L f (.ref cda) [("__class__", cc)]))
    (hs1 : ∀ L : Addr, swapsWith (.Call (.Attribute (.Call (.Name "super" p0) [] [] p1) "__init__" p2) [arg] [] p3) none p4.line (PySem.W.envX qual scope L f (.ref cda) [("__class__", cc)]) = pure false)
    (hs2 : ∀ L : Addr, swapsWith (.Name x q3) (some (.Attribute (.Name "self" q1) x q2)) q4.line (PySem.W.envX qual scope L f (.ref cda) [("__class__", cc)]) = pure false)
    (hxd : (x == ("__debug__" : Str)) = false) (hxc : (x == ("__classdict__" : Str)) = false)
    (ha : ∀ (A : Around) (outer : List Env) (s : Shared) (H : Hp) (E : XK), Ev (ncx CX P w K mg base ["self", x, "__class__"] ⟨name, qual, params, (supB p0 p1 p2 p3 p4 q1 q2 q3 q4 x arg), scope, [("__class__", cc)], cda⟩ f A outer s H E) WF arg F) :
    FnOk P w K mg base CX (k + 1) f (PySem.W.fnX name qual params (supB p0 p1 p2 p3 p4 q1 q2 q3 q4 x arg) scope [("__class__", cc)] dV kV doc pm an (.ref cda) ct) ["self", x] (spInit C x F) := by
  refine ⟨fun vs H Q E h => ?_, fun A outer s H args us vs Q E hr e0 hb r hsp => ?_⟩
  · obtain ⟨a, i, t, rfl, _⟩ := h; rfl
  obtain ⟨a, i, tx, rfl, hx0, hF, hq⟩ := hsp
  have KX : K.In s.heap := e0.mod.kin.keeps fun b o e => (e0.bs b o e).1
  have lim : s.heap.NoLimit := e0.mod.nolimit.keeps fun b o e => (e0.bs b o e).1
  refine PySem.ks_codeAny_call_defAt hr.depth (KX _ _ lk) rfl lim (PySem.W.codeRec_of KX G.cd) rfl hb S.nocell (fun ⟨n, v⟩ hy => S.par n (List.of_mem_zip hy).1) (fun h₁ hns kp => ?_) S.co S.gen S.kind
  obtain ⟨ccl, cdd, vsC, ccs, file, tf, lcode, hvs, hfile⟩ := G.code
  obtain ⟨cl, cld, csl, lcell⟩ := G.cell
  obtain ⟨nm, qn, N, bs, bm, sn, sub, ab, col, dd, k0, k1, k2, k3, k5, hC, hbm⟩ := G.oex.cls
  have hcl : PySem.W.clsIn K C = some { name := nm, bases := bs, mro := .ref C :: bm, ns := N, qualname := qn, hasDict := true, slotNames := sn, subclasses := sub, abstract := ab, collection := col, hasDel := false } := by unfold PySem.W.clsIn; rw [hC] <;> rfl
  have hcc := e0.bs _ _ (e0.mod.kin _ _ lcell)
  have one : ∀ {y : Str} {c : Addr}, ([("__class__", cc)] : List (Str × Addr)).lookup y = some c → y = "__class__" ∧ c = cc := fun {y c} e => by
    by_cases q : y = "__class__"
    · subst q
      have : some cc = some c := e
      exact ⟨rfl, (Option.some.inj this).symm⟩
    · have q' : (y == ("__class__" : Str)) = false := by simpa using q
      rw [List.lookup, q'] at e
      cases e
  have CA : CellsAt [("__class__", cc)] ["__class__"] [none] s.heap H := by
    refine ⟨rfl, fun y c e => ?_, fun y z c e1 e2 => ?_, fun j y e => ?_⟩
    · obtain ⟨rfl, rfl⟩ := one e
      exact ⟨hcc.2, _, _, hcc.1, rfl⟩
    · rw [(one e1).1, (one e2).1]
    · cases j with
      | zero =>
        cases e
        exact ⟨cc, rfl, fun v hv => by cases hv⟩
      | succ j => cases e
  have I := inv_startN (CX := CX) (P := P) (w := w) (K := K) (mg := mg) (base := base) (F := ⟨name, qual, params, supB p0 p1 p2 p3 p4 q1 q2 q3 q4 x arg, scope, [("__class__", cc)], cda⟩) (f := f) (E := E) (ws := [none]) (tk := s.toks + ([("self" : Str), x].zip us).length) S hr.hd e0 (by rfl) r CA hns kp
  have ha := ha A outer s H E
  have KX1 : K.In h₁ := KX.keeps kp
  obtain ⟨ar, hp, har⟩ := hps
  have hu0 : ∃ u1, us = [.ref a, u1] ∧ RelV (.int i) u1 := by
    cases r with
    | cons r1 rr =>
      cases rr with
      | cons r2 rr => cases rr; cases (show _ = Value.ref a from r1); exact ⟨_, rfl, r2⟩
  obtain ⟨u1, rfl, ru1⟩ := hu0
  have nd := S.nd
  have hsx : ("self" : Str) ≠ x := by
    intro e
    have := (List.nodup_cons.mp nd).1
    rw [← e] at this
    exact this List.mem_cons_self
  have hself : ([("self" : Str), x].zip [Value.ref a, u1]).reverse.lookup ar.arg = some (.ref a) := by
    rw [har]
    have q : (("self" : Str) == x) = false := by simpa using hsx
    show List.lookup ("self" : Str) ([(x, u1), (("self" : Str), Value.ref a)] : List (Str × Value)) = _
    rw [List.lookup, q]; rfl
  have hka : scope.names.lookup ar.arg = some .local := by rw [har]; exact S.par _ List.mem_cons_self
  have hkc : scope.names.lookup ("__class__" : Str) = some .free := S.frk _ List.mem_cons_self
  obtain ⟨t1, hx1⟩ := exo_at I.hok hx0
  have hD1 := KX1 _ _ hC
  obtain ⟨pl, hev⟩ := hev s.heap.objs.size
  have hint : interactive (PySem.W.envX qual scope s.heap.objs.size f (.ref cda) [("__class__", cc)]) = false := by
    unfold interactive
    simp [S.kind]
  refine ks_wpAt_execs_cons (ks_wpAt_Expr_any (ks_wpAt_MethodCall (pl := pl) ?_ hev) hint (hs1 _))
  refine ks_wpAt_super_base (env := PySem.W.envX qual scope s.heap.objs.size f (.ref cda) [("__class__", cc)]) hks hkc (by decide) rfl (KX1 _ _ lk) rfl hp rfl (KX1 _ _ lcode) rfl hvs hfile G.top ?_
  obtain ⟨mb, hb1, hb2⟩ := e0.mod.blt
  have kb : ∀ b o, base.get? b = some o → h₁.get? b = some o := fun b o e => kp _ _ (e0.bs b o e).1
  refine PySem.W.ks_loadName_global S.kind hks (Calls.loadGlobal_builtin (env := PySem.W.envX qual scope s.heap.objs.size f (.ref cda) [("__class__", cc)]) (e0.mod.glob.keeps kb) G.sup (hb1.keeps kb) ((hb2 "super" (by decide)).trans (by decide +kernel)) ⟨rfl, ?_⟩)
  refine wpAny_loadName_free S.kind hkc rfl ⟨_, KX1 _ _ lcell, rfl⟩ ?_
  refine wpAny_loadName_local S.kind hka hns hself ?_
  refine ks_wpAny_isType_cls hD1 rfl ⟨rfl, ?_⟩
  refine ks_wpAny_call_super hD1 rfl hx1 rfl (fun c z => by cases z) (PySem.W.looks_mroIn KX1 G.sub) fun h2 hso k2 => ?_
  have K2 : K.In h2 := KX1.keeps k2
  have IA : PySem.W.InstAt h2 a _ C none := ⟨k2 _ _ hx1, rfl, rfl, trivial⟩
  have hini : PySem.W.alongIn K "__init__" (((Value.ref C :: bm).dropWhile (· != .ref C)).drop 1) = some (some (.builtin "ValueError.__init__")) := by
    have := G.ini
    unfold PySem.W.ks_superIn at this
    rw [hcl] at this
    exact this
  have I2 := I.kept (t' := s.toks + ([("self" : Str), x].zip [Value.ref a, u1]).length) k2
  refine kxs_getMethod kxs_ValueError (K := K) (C := C) (D := C) (x := a) hso (PySem.W.looks_opaque K2 G.any) (l₀ := .ref C :: bm) (fun A Q E s k q => wpAny_bind ((PySem.W.looks_clsIn K2 hcl) A _ E s k (wpAny_pure q))) rfl K2 hini (IA.type.andThen (PySem.W.looks_subIn K2 G.ve)) (PySem.W.ks_ne K2 IA hcl) (by decide) ?_
  have I3 := inv_pin (I2.kept (t' := s.toks + ([("self" : Str), x].zip [Value.ref a, u1]).length + 1) (h' := h2.push (kxs_mw "ValueError.__init__" a)) fun b o e => Heap.get?_push_of_some _ e) (u := h2.objs.size) (o := kxs_mw "ValueError.__init__" a) (Heap.get?_push_size _ rfl) (I2.hok.fresh (Nat.le_refl _)) (Nat.ne_of_gt I2.lt) (I2.nofs (Nat.le_refl _)) (fun v z => by cases z)
  have rep : Rep w K (fun _ => none) H (fun _ => none) H (startF ["self", x, "__class__"] [.ref a, .int i] [none]) [.u, .f (.int i), .u] := by
    refine ⟨⟨Same.refl _, Same.refl _, (fun b u e => by cases e), (fun _ _ e _ => e)⟩, rfl, fun j c sl e1 e2 => ?_, fun j j' c e sl t b hj e1 e2 e3 e4 o1 o2 => ?_⟩
    · match j, e1, e2 with
      | 0, e1, e2 => cases e2; trivial
      | 1, e1, e2 => cases e1; cases e2; exact ⟨_, rfl, .int i⟩
      | 2, e1, e2 => cases e2; trivial
      | j + 3, e1, e2 => cases e2
    · match j, e3 with
      | 0, e3 => cases e3; exact o1.elim
      | 1, e3 => cases e3; exact o1.elim
      | 2, e3 => cases e3; exact o1.elim
      | j + 3, e3 => cases e3
  have post := (ea_cons ha ea_nil (he := hst _)).go (Q := fun vs H1 => Same H H1 ∧ ∃ t, vs = [V.str t]) rep (by
    show Post _ _ _ _ _ (F [.u, .f (.int i), .u] >>= _) _
    rw [hF]
    intro vs Z' H' x rd
    refine ⟨x.hh, ?_⟩
    obtain ⟨v, rfl, r0⟩ := rds1 rd
    cases r0
    exact ⟨_, rfl⟩)
  refine super_args (C := C) (pins := []) G.oex I3 hx0 post (hst _) fun s5 H3 I5 sm => ?_
  have e3 := sm _ _ hx0
  have vx : Vis scope x := .inl (S.par _ (List.mem_cons_of_mem _ List.mem_cons_self))
  have vself : Vis scope "self" := .inl (S.par _ List.mem_cons_self)
  refine wpAt_of_wpAny (wpAny_mono ((pss_one (ps_ost (pe_var (i := 0) (x := "self") (by rfl) vself) (pe_var (i := 1) (x := x) (by rfl) vx hxd hxc) (hs2 s.heap.objs.size))).run [] s5 _ H3 { nx := fun _ H' => Q .non H', rt := Q } I5 ?_) (fun fl s' hs => ?_) fun e s' hs => hs)
  · exact ⟨.int i, rfl, .ref a, rfl, a, C, rfl, G.oex, G.fld, .inl ⟨e3, fun dx n ne => hq dx H3 sm n ne⟩⟩
  · have fin : ∀ {σ' : L2.St} {H' : Hp} {v : V} {u : Value}, Inv (ncx CX P w K mg base ["self", x, "__class__"] ⟨name, qual, params, supB p0 p1 p2 p3 p4 q1 q2 q3 q4 x arg, scope, [("__class__", cc)], cda⟩ f A outer s H E) [] σ' H' s' → RelV v u → Q v H' → CE outer P w H s Q u s' :=
      fun {σ' H' v u} J rv q => ⟨v, H', J.os, J.bare, J.base, J.hok, rv, q⟩
    cases fl with
    | ret u =>
      obtain ⟨v, σ', H', J, rv, q⟩ := hs
      exact fin J rv q
    | next =>
      obtain ⟨σ', H', J, q⟩ := hs
      exact fin (v := V.non) (u := Value.none) J rfl q
    | brk =>
      obtain ⟨_, _, _, q⟩ := hs
      exact False.elim q
    | cont =>
      obtain ⟨_, _, _, q⟩ := hs
      exact False.elim q
end
end PQ

/-! PQ.37: raising such an exception; except C as e: return .., with e.x and isinstance(e, D) -/
namespace PQ
open PySem PySem.Spec PyProof.Rows L2 NdefX

def initOk (FI : EV) : D → Bool
  | .int i => match FI [.u, .f (.int i), .u] with
    | .ok (.str _) => true
    | _ => false
  | _ => false
def sRaiseF (n fld : Str) (FI F : EV) : ES := fun ρ => Out.of (F ρ) ρ fun d => Out.of (guardR (initOk FI d) d) ρ fun d => .exc ⟨n, [(fld, d)]⟩ ρ
@[simp] theorem x_sRaiseF (n fld : Str) (FI F : EV) (ρ : Rho) : sRaiseF n fld FI F ρ = Out.of (F ρ) ρ fun d => Out.of (guardR (initOk FI d) d) ρ fun d => .exc ⟨n, [(fld, d)]⟩ ρ := id rfl
theorem initOk_of {FI : EV} {d : D} (h : initOk FI d = true) : ∃ i t, d = .int i ∧ FI [.u, .f (.int i), .u] = .ok (.str t) := by
  unfold initOk at h
  split at h
  · split at h
    · exact ⟨_, _, rfl, by assumption⟩
    · cases h
  · cases h
section
variable {X : Cx} {W : WX} {Z0 H0 Z H : Hp} {σ : St} {ρ : Rho} {e : Expr} {F FI : EV}
theorem es_raiseF {x fld : Str} {C fI : Addr} {fd : FuncData} {k : Nat} {p p3 pos : Pos} (hc : X.calm = true) (tk : Takes X W) (T : OexC X.K C) (iC : PySem.W.findIn X.K (.ref C) "__init__" = some (some (.ref fI))) (tI : PySem.W.typeIn X.K (.ref fI) = some (.type "function"))
    (F1 : FnOk X.prog X.w X.K X.mg X.base CX0 k fI fd ["self", fld] (spInit C fld FI)) (hr : Room (k + 1) X.A) (hb : Binds X.K fd ["self", fld] []) (hm : X.mg x = some (.ref C)) (he : Ev X W e F) (hg : Gl X x := by rfl) (hdb : (x == ("__debug__" : Str)) = false := by decide)
    (hst : starEach [e] X.env = (false, eval e X.env) :: starEach [] X.env := by rfl) :
    Es X W (.Raise (some (.Call (.Name x p) [e] [] p3)) none pos) (sRaiseF x fld FI F) := by
  refine ⟨fun {Z0 H0 Z H σ ρ En} r q => toAtS (ps_raise hc tk (pmk_oex (dvs := []) T iC tI F1 hr hb .nil (fun _ _ _ _ _ _ _ h => h.elim) hg hm pa_at hdb hst (by rfl))) ?_⟩
  have q := q.post r
  have q2 : Post X W Z H σ (eCons F eNil ρ) (fun ds => ∃ d, ds = [d] ∧ SPost X W Z0 H0 Z (Out.of (guardR (initOk FI d) d) ρ fun d => .exc ⟨x, [(fld, d)]⟩ ρ) En) := by
    show Post X W Z H σ (F ρ >>= fun d => eNil ρ >>= fun ds => .ok (d :: ds)) _
    cases e : F ρ with
    | ok d => rw [e] at q; exact ⟨d, rfl, q⟩
    | exc y => rw [e] at q; exact q
    | stuck => rw [e] at q; exact q.elim
  refine (ea_cons he ea_nil (he := hst)).go r (q2.mono fun ds hd vs Z1 H1 x1 rd => ?_)
  obtain ⟨d, rfl, q3⟩ := hd
  obtain ⟨v, rfl, rv⟩ := rds1 rd
  have ok : initOk FI d = true := by
    cases c : initOk FI d with
    | true => rfl
    | false => rw [c] at q3; exact q3.elim
  rw [ok] at q3
  obtain ⟨i, t, rfl, hF⟩ := initOk_of ok
  cases rv
  refine ⟨by show 1 ≤ 1000; omega, fun a ha => ⟨a, i, t, rfl, upd_same, hF, fun dx H2 sm hn ne => ⟨rfl, dx, [(fld, .int i)], upd_same, ?_, ?_, ?_⟩⟩⟩
  · rw [upd_ne ne, upd_same]
  · cases e1 : H1 dx with
    | none => rfl
    | some o =>
      have e2 : (upd H1 a (exo a C none)) dx = some o := by rw [upd_ne ne]; exact e1
      rw [sm _ _ e2] at hn; cases hn
  · have n1 : H1 dx = none := by
      cases e1 : H1 dx with
      | none => rfl
      | some o =>
        have e2 : (upd H1 a (exo a C none)) dx = some o := by rw [upd_ne ne]; exact e1
        rw [sm _ _ e2] at hn; cases hn
    have up : ∀ b o, H1 b = some o → (upd (del (upd (upd H2 dx (exd dx [(fld, .int i)])) a (exo a C (some dx))) a) dx (.xd [(fld, .int i)])) b = some o := by
      intro b o e1
      have b1 : b ≠ a := by rintro rfl; rw [ha] at e1; cases e1
      have b2 : b ≠ dx := by rintro rfl; rw [n1] at e1; cases e1
      rw [upd_ne b2, del_ne b1, upd_ne b1, upd_ne b2]
      exact sm _ _ (by rw [upd_ne b1]; exact e1)
    have x2 : Ext Z1 H1 (upd Z1 dx (.xd [(fld, .int i)])) (upd (del (upd (upd H2 dx (exd dx [(fld, .int i)])) a (exo a C (some dx))) a) dx (.xd [(fld, .int i)])) := by
      have zn : Z1 dx = none := by
        cases e1 : Z1 dx with
        | none => rfl
        | some o => rw [x1.zh _ _ e1] at n1; cases n1
      refine ⟨up, same_upd zn, fun b o e1 => ?_, fun b o e1 e2 => ?_⟩
      · by_cases hb : b = dx
        · subst hb; rw [upd_same] at e1 ⊢; exact e1
        · rw [upd_ne hb] at e1
          exact up _ _ (x1.zh _ _ e1)
      · rw [upd_ne (by rintro rfl; rw [n1] at e2; cases e2)]
        exact e1
    exact q3 _ _ _ _ _ (r.step (x1.trans x2)) (x1.zz.trans x2.zz) (.fld hm upd_same (.int i))
/-! ### e.x of a caught exception -/
def slX (a : Addr) (d : Option Addr) (n : Str) : Option Sl → R Exc
  | some (.x a' d' x) => if a' = a ∧ d' = d ∧ x.cls = n then .ok x else .stuck
  | _ => .stuck
@[simp] theorem x_slX (a : Addr) (d : Option Addr) (x : Exc) : slX a d x.cls (some (.x a d x)) = .ok x := if_pos ⟨rfl, rfl, rfl⟩
def fldX (f : Str) (x : Exc) : R D := match x.fld with
  | [(g, d)] => if g = f then .ok d else .stuck
  | _ => .stuck
def eXf (i : Nat) (a : Addr) (d : Option Addr) (n f : Str) : EV := fun ρ => slX a d n ρ[i]? >>= fldX f
@[simp] theorem x_eXf (i : Nat) (a : Addr) (d : Option Addr) (n f : Str) (ρ : Rho) : eXf i a d n f ρ = (slX a d n ρ[i]? >>= fldX f) := id rfl
end
section
variable {X : Cx} {W : WX} {Z0 H0 Z H : Hp} {σ : St} {ρ : Rho} {e : Expr} {F FI : EV}
theorem ev_xf {a C : Addr} {oe : Obj} {cls : Value} {d : Option Addr} {pn : List (Addr × Obj)} {n f y : Str} {p pos : Pos} (i : Nat) (T : XfC X.K C) (hno : PySem.W.findIn X.K (.ref C) f = some none) (hz : Zc cls d oe) (hf : ∃ vs, oe.data = .fields vs) (hcls : cls = .ref C)
    (hi : (X.suite a ((a, oe) :: pn)).N[i]? = some y := by rfl) (hv : Vis (X.suite a ((a, oe) :: pn)).env.scope y := by first | exact Or.inl rfl | exact Or.inr (Or.inl rfl) | exact Or.inr (Or.inr rfl)) (hd : (y == ("__debug__" : Str)) = false := by decide) (hcd : (y == ("__classdict__" : Str)) = false := by decide)
    (hb : attributeBase (.Name y p) f X.env (eval (.Name y p) X.env) = eval (.Name y p) X.env := by rfl) : Ev (X.suite a ((a, oe) :: pn)) W (.Attribute (.Name y p) f pos) (eXf i a d n f) := by
  refine ⟨fun {Z0 H0 Z H σ ρ Q} r q => toAt (pe_xf T hno hz hf (pe_var hi hv hd hcd) hb) ?_⟩
  unfold eXf at q
  cases hr : ρ[i]? with
  | none => rw [hr] at q; exact q.elim
  | some s =>
    rw [hr] at q
    cases s with
    | x a' d' x =>
      by_cases hc : a' = a ∧ d' = d ∧ x.cls = n
      · have e1 : slX a d n (some (.x a' d' x)) = .ok x := if_pos hc
        rw [e1] at q
        have qq : Post (X.suite a ((a, oe) :: pn)) W Z H σ (fldX f x) (fun d => ∀ v Z' H', Ext Z H Z' H' → RD X.w X.K Z' v d → Q v H') := q
        obtain ⟨rfl, rfl, hn⟩ := hc
        have hlen : i < σ.length := by rw [r.len]; exact (List.getElem?_eq_some_iff.mp hr).1
        obtain ⟨hc2, hfl⟩ := r.sl i _ _ (List.getElem?_eq_getElem hlen) hr
        have hs : σ[i]? = some (some (.ref a')) := by rw [List.getElem?_eq_getElem hlen, hc2]
        unfold fldX at qq
        split at qq
        · rename_i g dd hx
          split at qq
          · rename_i hg
            subst hg
            obtain ⟨b, v, h1, h2, h3⟩ := hfl _ _ hx
            refine ⟨.ref a', hs, rfl, hcls, b, [(g, v)], v, h1, r.zh _ _ h2, ?_, qq v Z H (Ext.refl r.zh) h3⟩
            simp [List.lookup]
          · exact qq.elim
        · exact qq.elim
      · have e1 : slX a d n (some (.x a' d' x)) = .stuck := if_neg hc
        rw [e1] at q
        exact q.elim
    | _ => exact q.elim
/-! ### except C as e: return v -/
def sTryAs (S : ES) (tab : List (Str × Bool)) (V : Exc → R D) : ES := fun ρ => match S ρ with
  | .exc x ρ2 => (match tab.lookup x.cls with
    | some true => (match V x with
      | .ok d => .ret d
      | _ => .stuck)
    | some false => .exc x ρ2
    | none => .stuck)
  | o => o
theorem Rep.setX (r : Rep X.w X.K Z0 H0 Z H σ ρ) (i : Nat) {a : Addr} {x : Exc} {cls : Value} {d : Option Addr} (rx : RX X.w X.K X.mg Z x cls d) : Rep X.w X.K Z0 H0 Z H (σ.set i (some (.ref a))) (ρ.set i (.x a d x)) := by
  refine r.one i _ _ r.ext (Same.refl _) (fun j c s b _ h1 h2 o => r.keepsO j c s b h1 h2 o) ⟨rfl, fun f v e => ?_⟩ fun _ _ _ _ _ _ _ _ o => o
  cases rx with
  | bare h => cases e
  | fld h1 h2 h3 =>
    cases e
    exact ⟨_, _, rfl, h2, h3⟩
theorem es_tryAs {x n : Str} {c : Value} {i : Nat} {body : List Stmt} {ve : Expr} {rp np pos pos' : Pos} {S : ES} {tab : List (Str × Bool)} {V : Exc → R D} {G : Addr → Option Addr → Exc → EV} (hs : X.stack = X.env :: X.outer) (hf : X.env.frame = some X.env.locals) (hN : X.N.Nodup) (hc : Names X x c) (tk : Takes X W)
    (ht : TabOk X.K X.mg c tab)
    (hb : ∀ (W' : WX) (pn : List (Addr × Obj)) (xe : Value → Shared → Prop), Takes (X.tr pn xe) W' → PassesOwn (model X.prog X.w) X.A X.env xe → Ess (X.tr pn xe) W' body S)
    (hsu : ∀ (a : Addr) (oe : Obj) (cls : Value) (d : Option Addr) (pn : List (Addr × Obj)) (x : Exc) (C : Addr), Zc cls d oe → (∃ vs, oe.data = .fields vs) → X.mg x.cls = some (.ref C) → cls = .ref C → tab.lookup x.cls = some true → Ev (X.suite a ((a, oe) :: pn)) WF ve (G a d x))
    (hV : ∀ (a : Addr) (d : Option Addr) (x : Exc) (ρ : Rho), i < ρ.length → G a d x (ρ.set i (.x a d x)) = V x)
    (hi : X.N[i]? = some n := by rfl) (hln : X.env.kindOf n = some .local := by rfl) :
    Es X W (.Try body [.ExceptHandler (some (.Name x np)) (some n) [.Return (some ve) rp] pos'] [] [] pos) (sTryAs S tab V) := by
  refine ⟨fun {Z0 H0 Z H σ ρ En} r q => toAtS (ps_try_as (tb := fun W' D σ H => ∀ pn xe, Takes (X.tr pn xe) W' → PassesOwn (model X.prog X.w) X.A X.env xe → PSsat (X.tr pn xe) body D σ H)
    (ts := wishTo X [.Return (some ve) rp]) hs hf hN hi hln hc tk (fun W' pn xe t p => ⟨fun pins s σ H D I q => q pn xe t p pins s I⟩) (fun a oe cls d pn hz hv => ⟨fun pins s σ H D I q => q oe hz hv pn pins s I⟩)) ?_⟩
  intro pn xe t p
  refine (hb _ pn xe t p).go r ?_
  unfold sTryAs at q
  cases e : S ρ with
  | nx ρ2 => rw [e] at q; exact q
  | ret d => rw [e] at q; exact q
  | bk ρ2 => rw [e] at q; exact q
  | ct ρ2 => rw [e] at q; exact q
  | stuck => rw [e] at q; exact q.elim
  | exc y ρ2 =>
    rw [e] at q
    intro cls dx σ' Z' H' r' s' rx
    have hcls : ∃ C, X.mg y.cls = some (.ref C) ∧ cls = .ref C := by
      cases rx with
      | bare g => exact ⟨_, g, rfl⟩
      | fld g _ _ => exact ⟨_, g, rfl⟩
    obtain ⟨C, g, ec⟩ := hcls
    cases e2 : tab.lookup y.cls with
    | none =>
      have q : SPost X W Z0 H0 Z (match tab.lookup y.cls with
        | some true => (match V y with | .ok d => .ret d | _ => .stuck)
        | some false => .exc y ρ2
        | none => .stuck) En := q
      rw [e2] at q; exact q.elim
    | some b =>
      have q : SPost X W Z0 H0 Z (match tab.lookup y.cls with
        | some true => (match V y with | .ok d => .ret d | _ => .stuck)
        | some false => .exc y ρ2
        | none => .stuck) En := q
      rw [e2] at q
      refine ⟨b, by rw [ec]; exact ht _ _ e2 C g, fun hb1 a ha => ?_, fun hb1 => ?_⟩
      · subst hb1
        intro oe hz hv pn2 pins s I
        have hl : i < ρ2.length := by
          have h1 := r'.len
          have h2 : i < X.N.length := (List.getElem?_eq_some_iff.mp hi).1
          have h3 := I.len
          rw [List.length_set] at h3
          have h3 : σ'.length = X.N.length := h3
          omega
        have ev := hsu a oe cls dx pn2 y C hz hv g ec e2
        refine (ess_one (es_ret ev)).go (Rep.setX r' i (a := a) rx) ?_ pins s I
        show SPost _ _ _ _ _ (Out.of (G a dx y (ρ2.set i (.x a dx y))) _ .ret) _
        rw [hV a dx y ρ2 hl]
        cases e3 : V y with
        | ok d =>
          rw [e3] at q
          exact fun v Z2 H2 x2 rd => q v Z2 H2 x2 rd
        | exc z => rw [e3] at q; exact q.elim
        | stuck => rw [e3] at q; exact q.elim
      · subst hb1
        exact (SPost.step q s') _ _ _ _ _ r' (Same.refl _) rx
end
end PQ

/-! PQ.38: text.split(sep) -/
namespace PQ
open PySem PySem.Spec PyProof.Rows L2
def dSplit : D → List D → R D
  | .str a, [.str b] => guardR (decide (b.length ≠ 0) && fits (a.length + 2)) (.list ((Txt.split a b).map .str))
  | _, _ => .stuck
theorem cl_split (d : D) (ds : List D) : (dSplit d ds).clean := by
  unfold dSplit
  split <;> first | exact clean_guard _ _ | trivial
@[simp] theorem x_dSplit (a b : Str) : dSplit (.str a) [.str b] = guardR (decide (b.length ≠ 0) && fits (a.length + 2)) (.list ((Txt.split a b).map .str)) := id rfl
theorem rds_str {w : World} {K : PySem.W.Frag} {Z : Hp} : ∀ ys : List Str, RDs w K Z (ys.map V.str) (ys.map .str)
  | [] => .nil
  | _ :: ys => .cons (.str _) (rds_str ys)
section
variable {X : Cx} {W : WX} {a b c e f o : Expr} {es rest : List Expr} {pos p apos cpos : Pos} {F G I : EV} {T U : ET} {Fs : EA}
abbrev rSplitT : V → List V → Hp → VK → Prop := fun x xs H Q => ∃ a b, x = .str a ∧ xs = [.str b] ∧ (b.length == 0) = false ∧ a.length + 2 ≤ sizeLine ∧ rNewStrs (Txt.split a b) H Q
theorem me_split : MeD X "str" rSplitT dSplit := by
  intro Z H x d xs ds Q sz rd rs _ h
  unfold dSplit at h
  split at h
  · cases rd
    obtain ⟨v, rfl, r0⟩ := rds1 rs
    cases r0
    obtain ⟨hc, h⟩ := h.guard
    rw [Bool.and_eq_true] at hc
    have h1 := of_decide_eq_true hc.1
    refine ⟨_, _, rfl, rfl, by simpa using h1, fits_le hc.2, fun l hl => ?_⟩
    exact h _ _ _ (Ext.new sz hl) (.lst upd_same (rds_str _))
  · exact h.elim
theorem ev_split (ho : Ev X W o F) (ha : Ea X W (e :: es) Fs) (hbase : attributeBase o "split" X.env (eval o X.env) = eval o X.env := by rfl)
    (hfew : ((backTo cpos (starEach (e :: es) X.env)).all (fun x => !x.1) && (backToKw cpos (keywordEach [] X.env)).all (fun x => x.1.isSome)
      && decide ((e :: es).length + ([] : List Keyword).length + (if ([] : List Keyword).isEmpty then 0 else 1) < 30)) = true := by rfl)
    (hline : (apos.endLine == cpos.line) = true := by rfl) : Ev X W (.Call (.Attribute o "split" apos) (e :: es) [] cpos) (eM "str" dSplit F Fs) :=
  ev_M PySem.F.plainAttrs_str PySem.F.slot_str_split PySem.F.type_str_split mt_split (.inl rfl) me_split cl_split ho ha hbase hfew hline
end
end PQ

/-! PQ.39: what the top has written of such an exception class, in one structure; made from what the end can answer -/
namespace PQ
open PySem PySem.Spec PyProof.Rows L2 NdefX

abbrev mVE : List Value := [.type "ValueError", .type "Exception", .type "BaseException", .type "object"]
structure XIni (P : Program) (w : World) (K : PySem.W.Frag) (mg : Str → Option Value) (n fld : Str) (FI : EV) (C : Addr) : Prop where
  glob : mg n = some (.ref C)
  oex : OexC K C
  xf : XfC K C
  nof : PySem.W.findIn K (.ref C) fld = some none
  ini : ∃ (fI : Addr) (fd : FuncData), PySem.W.findIn K (.ref C) "__init__" = some (some (.ref fI)) ∧ PySem.W.typeIn K (.ref fI) = some (.type "function") ∧ Binds K fd ["self", fld] [] ∧
    ∀ (k : Nat) (base : Heap), FnOk P w K mg base CX0 (k + 1) fI fd ["self", fld] (spInit C fld FI)
theorem refsVE_of : ∀ l : List Value, PySem.W.excTail mVE l = true → PySem.HandSPX.refsVE l = true := by
  intro l
  induction l with
  | nil => intro h; exact absurd h (by decide)
  | cons a r ih =>
    intro h
    rcases PySem.W.excTail_cases (a :: r) h with ⟨c, r', q, h'⟩ | q
    · obtain ⟨rfl, rfl⟩ := List.cons.inj q
      exact ih h'
    · rw [q]; exact (by decide)
theorem oex_mk {K : PySem.W.Frag} {C : Addr} (q : PySem.W.excInitIn K C mVE "ValueError.__new__" = true) (hd : PySem.W.hasDictIn K C = true) (sa : PySem.W.findIn K (.ref C) "__setattr__" = some (some (.builtin "object.__setattr__")))
    (b : PySem.W.subIn K (.ref C) (.type "BaseException") = some true) (t : PySem.W.typeIn K (.ref C) = some (.type "type")) (k : PySem.W.keepIn K (.ref C) = true) : OexC K C := by
  refine ⟨?_, sa, b, t, k⟩
  unfold PySem.W.excInitIn at q
  split at q
  · rename_i dd cd sl ho
    split at q
    · rename_i C' bm k0 k1 k2 k3 n k5 hm hs
      simp only [Bool.and_eq_true, beq_iff_eq, Bool.not_eq_true'] at q
      obtain ⟨⟨⟨rfl, rfl⟩, hdel⟩, ht⟩ := q
      unfold PySem.W.hasDictIn PySem.W.clsIn at hd
      rw [ho] at hd
      obtain ⟨nm, bs, mro, ns, qn, hd', sn, sub, ab, col, del⟩ := cd
      dsimp only at hm hdel
      subst hm hdel
      have e : hd' = true := by simpa using hd
      subst e
      have hsl : sl = #[k0, k1, k2, k3, some (.builtin "ValueError.__new__"), k5] := by
        obtain ⟨l⟩ := sl
        simp only at hs
        rw [hs]
      subst hsl
      exact ⟨nm, qn, ns, bs, bm, sn, sub, ab, col, dd, k0, k1, k2, k3, k5, ho, refsVE_of _ ht⟩
    · cases q
  · cases q
/-- the code's file -/
def codeFileIn (K : PySem.W.Frag) (c : Addr) (file : Str) : Bool := match K.lookup c with
  | some ⟨_, _, .fields vs, _⟩ => (match (vs[2]? : Option Value) with
    | some (Value.str f _) => file == f
    | _ => false)
  | _ => false
theorem codeFile_of {K : PySem.W.Frag} {c : Addr} {f0 : Str} (h : codeFileIn K c f0 = true) : ∃ ccl cdd vs ccs file tf, K.lookup c = some ⟨ccl, cdd, .fields vs, ccs⟩ ∧ vs[2]? = some (.str file tf) ∧ (f0 == file) = true := by
  unfold codeFileIn at h
  split at h
  · rename_i a b vs d e
    split at h
    · rename_i f t e2
      exact ⟨a, b, vs, d, f, t, e, e2, h⟩
    · cases h
  · cases h
def cellIn (K : PySem.W.Frag) (c C : Addr) : Bool := match K.lookup c with
  | some ⟨_, _, .cell (some (.ref C')), _⟩ => C' == C
  | _ => false
theorem cell_of {K : PySem.W.Frag} {c C : Addr} (h : cellIn K c C = true) : ∃ cl cld csl, K.lookup c = some ⟨cl, cld, .cell (some (.ref C)), csl⟩ := by
  unfold cellIn at h
  split at h
  · rename_i a b C' d e
    have := beq_iff_eq.mp h
    subst this
    exact ⟨a, b, d, e⟩
  · cases h
theorem xini_mk {P : Program} {w : World} {K : PySem.W.Frag} {mg : Str → Option Value} {n fld qual : Str} {FI : EV} {C fI cc cda : Addr} {fd : FuncData}
    (hg : mg n = some (.ref C)) (q : PySem.W.excInitIn K C mVE "ValueError.__new__" = true) (hd : PySem.W.hasDictIn K C = true) (sa : PySem.W.findIn K (.ref C) "__setattr__" = some (some (.builtin "object.__setattr__")))
    (b : PySem.W.subIn K (.ref C) (.type "BaseException") = some true) (t : PySem.W.typeIn K (.ref C) = some (.type "type")) (kp : PySem.W.keepIn K (.ref C) = true)
    (ga : PySem.W.findIn K (.ref C) "__getattribute__" = some (some (.builtin "BaseException.__getattribute__"))) (gg : PySem.W.findIn K (.ref C) "__getattr__" = some none) (nof : PySem.W.findIn K (.ref C) fld = some none)
    (fi : PySem.W.findIn K (.ref C) "__init__" = some (some (.ref fI))) (ti : PySem.W.typeIn K (.ref fI) = some (.type "function"))
    (cd : PySem.W.codeIn K (.ref cda) qual = true) (cf : codeFileIn K cda P.main.file = true) (ce : cellIn K cc C = true) (mro : PySem.W.mroIn K C (.ref C) = some true) (sup : mg "super" = none)
    (ini : PySem.W.ks_superIn K C C "__init__" = some (some (.builtin "ValueError.__init__"))) (ve : PySem.W.subIn K (.ref C) (.type "ValueError") = some true) (any : PySem.W.nsIn K cStatics "thirdparty.any" = some none)
    (top : (P.main.scope.names.lookup ("super" : Str)).isSome = false) (bd : Binds K fd ["self", fld] [])
    (ok : SupK P K mg C cc cda fld qual → ∀ (k : Nat) (base : Heap), FnOk P w K mg base CX0 (k + 1) fI fd ["self", fld] (spInit C fld FI)) : XIni P w K mg n fld FI C := by
  have o := oex_mk q hd sa b t kp
  exact ⟨hg, o, ⟨ga, gg, b, hd⟩, nof, fI, fd, fi, ti, bd, ok ⟨o, cd, codeFile_of cf, cell_of ce, mro, sup, ini, ve, any, nof, top⟩⟩
section
variable {X : Cx} {W : WX} {e : Expr} {F FI : EV}
theorem es_raiseX {x fld : Str} {C : Addr} {k : Nat} {p p3 pos : Pos} (hc : X.calm = true) (tk : Takes X W) (T : XIni X.prog X.w X.K X.mg x fld FI C) (hr : Room (k + 2) X.A) (he : Ev X W e F) (hg : Gl X x := by rfl) (hdb : (x == ("__debug__" : Str)) = false := by decide)
    (hst : starEach [e] X.env = (false, eval e X.env) :: starEach [] X.env := by rfl) :
    Es X W (.Raise (some (.Call (.Name x p) [e] [] p3)) none pos) (sRaiseF x fld FI F) := by
  obtain ⟨fI, fd, a, b, c, d⟩ := T.ini
  exact es_raiseF hc tk T.oex a b (d k _) hr c T.glob he hg hdb hst
end
end PQ
namespace PQ
theorem tab_one {n : PySem.Str} : ∀ {tab : List (PySem.Str × Bool)} {y : PySem.Str}, tab.lookup y = some true → (tab.filter (·.2)).map (·.1) = [n] → y = n
  | [], _, h, _ => by cases h
  | (k, b) :: r, y, h, hn => by
    by_cases e : y = k
    · subst e
      have hb : b = true := by
        rw [List.lookup_cons_self] at h
        exact Option.some.inj h
      subst hb
      simp at hn
      exact hn.1
    · have e' : (y == k) = false := by simpa using e
      rw [List.lookup_cons, e'] at h
      cases b with
      | false => exact tab_one h (by simpa using hn)
      | true =>
        exfalso
        simp at hn
        have : ∀ {r : List (PySem.Str × Bool)}, (∀ a b, (a, b) ∈ r → b = false) → r.lookup y = some true → False := by
          intro r
          induction r with
          | nil => intro _ h; cases h
          | cons p r ih =>
            intro q h
            by_cases e2 : y = p.1
            · have : r.lookup y = r.lookup y := rfl
              obtain ⟨p1, p2⟩ := p
              dsimp only at e2
              subst e2
              rw [List.lookup_cons_self] at h
              have h1 := Option.some.inj h
              have h2 := q y p2 (by simp)
              rw [h1] at h2; cases h2
            · obtain ⟨p1, p2⟩ := p
              have e3 : (y == p1) = false := by simpa using e2
              rw [List.lookup_cons, e3] at h
              exact ih (fun a b hm => q a b (List.mem_cons_of_mem _ hm)) h
        refine this (fun a b hm => ?_) h
        have := hn.2
        cases b with
        | false => rfl
        | true => exact absurd hm (by simpa using this a)
end PQ
namespace PQ
open PySem
theorem xc_eq {mg : Str → Option Value} {n y : Str} {C C' : Addr} (g : mg n = some (.ref C')) (e : y = n) (hm : mg y = some (.ref C)) : C = C' := by
  subst e
  rw [g] at hm
  cases hm
  rfl
end PQ

/-! PQ.40: tables of sets of any size (2 ^ e slots) -/
namespace PQ
open PySem PySem.Spec PyProof.Rows L2
open PySem.SetTable (bits turns)

/-! ### i -> 5 i + 1 goes through all slots -/
def gs : Nat → Nat
  | 0 => 0
  | n + 1 => gs n * 5 + 1
theorem gs_pow : ∀ n, 4 * gs n + 1 = 5 ^ n
  | 0 => rfl
  | n + 1 => by
    have := gs_pow n
    rw [Nat.pow_succ, ← this, gs]
    omega
theorem gs_par : ∀ n, gs n % 2 = n % 2
  | 0 => rfl
  | n + 1 => by
    have := gs_par n
    rw [gs]
    omega
theorem gs_add (a b : Nat) : gs (a + b) = gs a * 5 ^ b + gs b := by
  induction b with
  | zero => rw [Nat.pow_zero, Nat.mul_one]; rfl
  | succ b ih =>
    show gs (a + b) * 5 + 1 = gs a * 5 ^ (b + 1) + (gs b * 5 + 1)
    rw [ih, Nat.pow_succ, Nat.add_mul, Nat.mul_assoc]
    omega
/-- an odd factor does not matter -/
theorem dvd_odd {e a b : Nat} (hb : b % 2 = 1) (h : 2 ^ e ∣ a * b) : 2 ^ e ∣ a := by
  refine Nat.Coprime.dvd_of_dvd_mul_right ?_ h
  refine Nat.Coprime.pow_left e ?_
  rw [Nat.coprime_iff_gcd_eq_one]
  have : Nat.gcd 2 b = 1 := by
    rw [Nat.gcd_rec, hb]; rfl
  exact this
theorem gs_dvd : ∀ e d : Nat, 2 ^ e ∣ gs d → 2 ^ e ∣ d
  | 0, d, _ => ⟨d, by rw [Nat.pow_zero, Nat.one_mul]⟩
  | e + 1, d, h => by
    have h2 : 2 ∣ gs d := Nat.dvd_trans ⟨2 ^ e, by rw [Nat.pow_succ, Nat.mul_comm]⟩ h
    have hp := gs_par d
    obtain ⟨c, rfl⟩ : ∃ c, d = c + c := ⟨d / 2, by omega⟩
    have q := gs_pow c
    have e1 : gs (c + c) = 2 * (gs c * (2 * gs c + 1)) := by
      rw [gs_add, ← q]
      generalize gs c = g
      rw [Nat.mul_add, Nat.mul_add, Nat.mul_one]
      have : g * (4 * g) = 2 * (g * (2 * g)) := by
        rw [Nat.mul_left_comm, Nat.mul_left_comm g 2 g]; omega
      omega
    rw [e1, Nat.pow_succ, Nat.mul_comm (2 ^ e) 2] at h
    have h3 := dvd_odd (by omega) (Nat.dvd_of_mul_dvd_mul_left (by omega) h)
    obtain ⟨k, hk⟩ := gs_dvd e c h3
    exact ⟨k, by rw [Nat.pow_succ]; rw [Nat.mul_comm (2 ^ e) 2, Nat.mul_assoc]; omega⟩
theorem lcgI_mod (m i : Nat) : ∀ q, lcgI m i q % (m + 1) = (5 ^ q * i + gs q) % (m + 1)
  | 0 => by show i % (m + 1) = (5 ^ 0 * i + 0) % (m + 1); rw [Nat.pow_zero, Nat.one_mul]; rfl
  | q + 1 => by
    show ((lcgI m i q * 5 + 1) % (m + 1)) % (m + 1) = _
    rw [Nat.mod_mod, Nat.add_mod, Nat.mul_mod, lcgI_mod m i q, ← Nat.mul_mod, ← Nat.add_mod]
    congr 1
    show (5 ^ q * i + gs q) * 5 + 1 = 5 ^ (q + 1) * i + (gs q * 5 + 1)
    rw [Nat.pow_succ, Nat.add_mul, Nat.mul_right_comm]
    omega
theorem lcgI_le {m i : Nat} (hi : i ≤ m) : ∀ q, lcgI m i q ≤ m
  | 0 => hi
  | q + 1 => Nat.le_of_lt_succ (Nat.mod_lt _ (Nat.succ_pos _))
theorem lcgI_shift (m i : Nat) (a : Nat) : ∀ d, lcgI m i (a + d) = lcgI m (lcgI m i a) d
  | 0 => rfl
  | d + 1 => by
    show (lcgI m i (a + d) * 5 + 1) % (m + 1) = (lcgI m (lcgI m i a) d * 5 + 1) % (m + 1)
    rw [lcgI_shift m i a d]
theorem lcg_back {m e x d : Nat} (hm : m + 1 = 2 ^ e) (hd : 0 < d) (hd2 : d ≤ m) (h : lcgI m x d % (m + 1) = x % (m + 1)) : False := by
  rw [lcgI_mod] at h
  have q := gs_pow d
  have e1 : 5 ^ d * x + gs d = x + gs d * (4 * x + 1) := by
    rw [← q]
    generalize gs d = g
    rw [Nat.add_mul, Nat.mul_add, Nat.one_mul, Nat.mul_one]
    have : 4 * g * x = g * (4 * x) := by rw [Nat.mul_comm 4 g, Nat.mul_assoc]
    omega
  rw [e1] at h
  have hdv : (m + 1) ∣ gs d * (4 * x + 1) := by
    have := Nat.sub_mod_eq_zero_of_mod_eq h
    rw [Nat.add_sub_cancel_left] at this
    exact Nat.dvd_of_mod_eq_zero this
  rw [hm] at hdv
  have h3 := gs_dvd e d (dvd_odd (by omega) hdv)
  have := Nat.le_of_dvd hd h3
  omega
theorem lcgI_inj {m e i : Nat} (hm : m + 1 = 2 ^ e) (hi : i ≤ m) {a b : Nat} (ha : a ≤ m) (hb : b ≤ m) (h : lcgI m i a = lcgI m i b) : a = b := by
  have key : ∀ a b : Nat, a < b → b ≤ m → lcgI m i a = lcgI m i b → False := by
    intro a b hlt hb h
    obtain ⟨d, rfl⟩ : ∃ d, b = a + d := ⟨b - a, by omega⟩
    rw [lcgI_shift] at h
    exact lcg_back hm (d := d) (by omega) (by omega) (congrArg (· % (m + 1)) h.symm)
  rcases Nat.lt_trichotomy a b with c | c | c
  · exact (key a b c hb h).elim
  · exact c
  · exact (key b a c ha h.symm).elim
/-! ### the first free slot -/
/-- masks of tables -/
def PMask (m : Nat) : Prop := ∃ e, m + 1 = 2 ^ e
/-- some run begins at a slot that is none of so many -/
theorem run_free {m : Nat} (hm : PMask m) (h : Int) {taken : List Nat} (hl : taken.length ≤ m) : ∃ n, n ≤ taken.length + 12 ∧ runI m (bits h) n ∉ taken := by
  obtain ⟨e, he⟩ := hm
  have hi := runI_le m (bits h) 12
  have nd : ((List.range (taken.length + 1)).map (lcgI m (runI m (bits h) 12))).Nodup := by
    refine List.pairwise_map.mpr ?_
    refine List.Pairwise.imp_of_mem (fun {a b} ha hb hne z => hne ?_) List.nodup_range
    have ha := List.mem_range.mp ha
    have hb := List.mem_range.mp hb
    exact lcgI_inj he hi (by omega) (by omega) z
  rcases Classical.em (∃ x ∈ (List.range (taken.length + 1)).map (lcgI m (runI m (bits h) 12)), x ∉ taken) with ⟨x, hx, hn⟩ | c
  · obtain ⟨q, hq, rfl⟩ := List.mem_map.mp hx
    have hq := List.mem_range.mp hq
    exact ⟨12 + q, by omega, by rw [runI_tail (bits_lt h)]; exact hn⟩
  · exfalso
    have := nat_nodup_len _ taken nd fun x hx => by
      rcases Classical.em (x ∈ taken) with k | k
      · exact k
      · exact absurd ⟨x, hx, k⟩ c
    simp at this
    omega
theorem way_le' {m : Nat} {h : Int} {k : Nat} : way m h k ≤ m := by
  have hi : bits h % (m + 1) ≤ m := Nat.le_of_lt_succ (Nat.mod_lt _ (Nat.succ_pos _))
  have r := runEnd_bd hi
  have q := nth_in (m := m) k (runAt m (bits h % (m + 1)) (bits h)) (by
    show bits h % (m + 1) + (SetTable.runEnd m (bits h % (m + 1)) - bits h % (m + 1)) ≤ m
    omega)
  show (nth m (runAt m (bits h % (m + 1)) (bits h)) k).j ≤ m
  omega
/-- a table whose slots all are found again from their hashes -/
structure TabG (t : SetTable) (hs : List Int) : Prop where
  ris : Ris t.place.toList
  dm : t.dummies = #[]
  sz : t.place.size = hs.length
  pm : PMask t.mask
  m7 : 7 ≤ t.mask
  bd : ∀ x ∈ t.place.toList, x ≤ t.mask
  reach : ∀ (i : Nat) (h : Int) (j : Nat), hs[i]? = some h → t.place.toList[i]? = some j → ∃ k, way t.mask h k = j ∧ ∀ k', k' < k → way t.mask h k' ∈ t.place.toList
theorem pmask_odd {m : Nat} (h : PMask m) (h7 : 7 ≤ m) : m % 2 = 1 := by
  obtain ⟨e, he⟩ := h
  cases e with
  | zero => rw [Nat.pow_zero] at he; omega
  | succ e => rw [Nat.pow_succ] at he; omega
theorem TabG.first {t : SetTable} {hs : List Int} (T : TabG t hs) (hl : hs.length ≤ t.mask) (h : Int) : ∃ K, K ≤ 10 * (hs.length + 12) ∧ way t.mask h K ∉ t.place.toList ∧ ∀ k, k < K → way t.mask h k ∈ t.place.toList := by
  have hz : t.place.toList.length = hs.length := by rw [Array.length_toList]; exact T.sz
  obtain ⟨n, hn, hf⟩ := run_free T.pm h (taken := t.place.toList) (by omega)
  obtain ⟨k, hk, e⟩ := run_nth t.mask (bits h) n
  obtain ⟨K, h1, h2, h3⟩ := st_least (p := fun k => way t.mask h k ∉ t.place.toList) k (by
    show way t.mask h k ∉ _
    have : way t.mask h k = runI t.mask (bits h) n := by show (nth _ _ k).j = _; rw [e]; rfl
    rw [this]; exact hf)
  refine ⟨K, by omega, h2, fun k' hk' => ?_⟩
  rcases Classical.em (way t.mask h k' ∈ t.place.toList) with c | c
  · exact c
  · exact absurd c (h3 k' hk')
theorem TabG.before {t : SetTable} {hs : List Int} (T : TabG t hs) {h : Int} {K i j : Nat} (hK : way t.mask h K ∉ t.place.toList) (hi : hs[i]? = some h) (hj : t.place.toList[i]? = some j) : ∃ k, k < K ∧ way t.mask h k = j := by
  obtain ⟨k, e, hb⟩ := T.reach i h j hi hj
  refine ⟨k, ?_, e⟩
  rcases Nat.lt_trichotomy k K with c | c | c
  · exact c
  · rw [← c, e] at hK
    exact absurd (List.mem_of_getElem? hj) hK
  · exact absurd (hb K c) hK
/-- one more is put in -/
theorem TabG.put {t : SetTable} {hs : List Int} (T : TabG t hs) {h : Int} {K : Nat} (hK : way t.mask h K ∉ t.place.toList) (hb : ∀ k, k < K → way t.mask h k ∈ t.place.toList) :
    ∃ p, (t.put (way t.mask h K)).2 = p ∧ p ≤ hs.length ∧ TabG (t.put (way t.mask h K)).1 (hs.take p ++ h :: hs.drop p) ∧
    (t.put (way t.mask h K)).1.mask = t.mask ∧ (t.put (way t.mask h K)).1.led = t.led ∧ (t.put (way t.mask h K)).1.plain = t.plain ∧ (t.put (way t.mask h K)).1.fill = hs.length + 1 := by
  have hjm : way t.mask h K ≤ t.mask := way_le'
  generalize hj : way t.mask h K = j at hK hjm ⊢
  obtain ⟨c1, _, _⟩ := below_cut T.ris j
  have hsz : t.place.toList.length = hs.length := by rw [Array.length_toList]; exact T.sz
  have hpl : SetTable.below t.place j ≤ t.place.toList.length := by rw [Array.length_toList]; exact c1
  have hph : SetTable.below t.place j ≤ hs.length := by rw [← hsz]; exact hpl
  have hnp : t.place[SetTable.below t.place j]? ≠ some j := fun e => hK (List.mem_of_getElem? (by rw [Array.getElem?_toList]; exact e))
  have hpp := put_place t j
  have hsize : (t.put j).1.place.size = hs.length + 1 := by rw [← Array.length_toList, hpp, len_ins _ hpl, hsz]
  have up : ∀ {x : Nat}, x ∈ t.place.toList → x ∈ (t.put j).1.place.toList := fun {x} hx => by rw [hpp]; exact mem_ins.2 (.inr hx)
  refine ⟨SetTable.below t.place j, rfl, hph, ⟨ris_insert T.ris hnp, put_dm T.dm j, by rw [len_ins _ hph]; exact hsize, T.pm, T.m7, fun x hx => ?_, fun i h' j' h1 h2 => ?_⟩, rfl, rfl, rfl, ?_⟩
  · rw [hpp] at hx
    rcases mem_ins.1 hx with rfl | z
    · exact hjm
    · exact T.bd x z
  · rw [tins_get hs hph] at h1
    rw [hpp, tins_get _ hpl] at h2
    have old : ∀ i, hs[i]? = some h' → t.place.toList[i]? = some j' → ∃ k, way t.mask h' k = j' ∧ ∀ k', k' < k → way t.mask h' k' ∈ (t.put j).1.place.toList := fun i a b => by
      obtain ⟨k, e, z⟩ := T.reach i h' j' a b
      exact ⟨k, e, fun k' hk' => up (z k' hk')⟩
    show ∃ k, way t.mask h' k = j' ∧ ∀ k', k' < k → way t.mask h' k' ∈ (t.put j).1.place.toList
    by_cases c : i < SetTable.below t.place j
    · rw [if_pos c] at h1 h2
      exact old i h1 h2
    · rw [if_neg c] at h1 h2
      by_cases d : i = SetTable.below t.place j
      · rw [if_pos d] at h1 h2
        cases h1; cases h2
        exact ⟨K, hj, fun k' hk' => up (hb k' hk')⟩
      · rw [if_neg d] at h1 h2
        exact old (i - 1) h1 h2
  · show (t.put j).1.place.size + (t.put j).1.dummies.size = hs.length + 1
    rw [hsize, put_dm T.dm j]; rfl
/-! ### laying anew -/
theorem free_g {m : Nat} (hm : PMask m) (owner : Array (Option Nat)) (h : Int) {taken : List Nat} (hl : taken.length ≤ m) (ht : ∀ j, j ≤ m → oAt owner j ≠ none → j ∈ taken) :
    ∃ K, SetTable.layClean.free m owner (turns m) (bits h % (m + 1)) (bits h) = some (way m h K) ∧ oAt owner (way m h K) = none ∧ ∀ k, k < K → oAt owner (way m h k) ≠ none := by
  obtain ⟨n, hn, hf⟩ := run_free hm h hl
  have h0 : oAt owner (runI m (bits h) n) = none := by
    rcases Classical.em (oAt owner (runI m (bits h) n) = none) with c | c
    · exact c
    · exact absurd (ht _ (runI_le m (bits h) n) c) hf
  have hw : way m h (off m (bits h % (m + 1)) (bits h) n) = runI m (bits h) n := by
    show (nth m (runAt m (bits h % (m + 1)) (bits h)) (off m (bits h % (m + 1)) (bits h) n)).j = _
    rw [nth_off, itL_run]; rfl
  obtain ⟨K, k1, k2, k3⟩ := st_least (p := fun k => oAt owner (way m h k) = none) (off m (bits h % (m + 1)) (bits h) n) (by rw [hw]; exact h0)
  refine ⟨K, ?_, k2, k3⟩
  refine free_spec m owner (turns m) n _ _ K (by unfold turns; omega) k1 (fun k hk => ?_) ?_
  · have q := k3 k hk
    cases z : oAt owner (nth m (runAt m (bits h % (m + 1)) (bits h)) k).j with
    | none => exact absurd z q
    | some _ => rfl
  · have q : oAt owner (nth m (runAt m (bits h % (m + 1)) (bits h)) K).j = none := k2
    rw [q]; rfl
theorem own_step {m : Nat} (hm : PMask m) {done : List Int} {owner : Array (Option Nat)} (W : L2.Own m done owner) (hl : done.length ≤ m) (h : Int) :
    ∃ j, SetTable.layClean.free m owner (turns m) (bits h % (m + 1)) (bits h) = some j ∧ L2.Own m (done ++ [h]) (owner.setIfInBounds j (some done.length)) := by
  obtain ⟨ps, hps, hin⟩ := W.ps
  obtain ⟨K, e1, e2, e3⟩ := free_g hm owner h (taken := ps) (by omega) hin
  have hjm : way m h K ≤ m := way_le'
  have hjs : way m h K < owner.size := by rw [W.sz]; exact Nat.lt_succ_of_le hjm
  refine ⟨way m h K, e1, ?_⟩
  have hself := oAt_set_self (some done.length) hjs
  have mono : ∀ {i : Nat}, oAt owner i ≠ none → oAt (owner.setIfInBounds (way m h K) (some done.length)) i ≠ none := fun {i} hi => by
    by_cases c : i = way m h K
    · rw [c, hself]; exact fun e => nomatch e
    · rw [oAt_set_ne _ c]; exact hi
  constructor
  · rw [Array.size_setIfInBounds]; exact W.sz
  · intro j k hj e
    by_cases c : j = way m h K
    · subst c
      rw [hself] at e
      cases e
      exact ⟨h, K, by simp, rfl, fun k' hk' => mono (e3 k' hk')⟩
    · rw [oAt_set_ne _ c] at e
      obtain ⟨h', K', a1, a2, a3⟩ := W.at_ j k hj e
      refine ⟨h', K', ?_, a2, fun k' hk' => mono (a3 k' hk')⟩
      rw [List.getElem?_append_left (List.getElem?_eq_some_iff.mp a1).1]
      exact a1
  · intro k hk
    rw [List.length_append, List.length_singleton] at hk
    rcases Nat.lt_or_ge k done.length with c | c
    · obtain ⟨j, hj, e⟩ := W.all k c
      refine ⟨j, hj, ?_⟩
      rw [oAt_set_ne _ (fun z => by rw [z, e2] at e; cases e)]
      exact e
    · have ek : k = done.length := by omega
      rw [ek]
      exact ⟨way m h K, hjm, hself⟩
  · refine ⟨way m h K :: ps, by simp [hps], fun j hj e => ?_⟩
    by_cases c : j = way m h K
    · rw [c]; exact List.mem_cons_self
    · rw [oAt_set_ne _ c] at e
      exact List.mem_cons_of_mem _ (hin j hj e)
theorem fold_g {m : Nat} (hm : PMask m) : ∀ (rest done : List Int) (owner : Array (Option Nat)), L2.Own m done owner → done.length + rest.length ≤ m →
    ∃ owner', rest.foldl (stepF m) (some (owner, done.length)) = some (owner', (done ++ rest).length) ∧ L2.Own m (done ++ rest) owner'
  | [], done, owner, W, _ => ⟨owner, by simp, by simpa using W⟩
  | h :: rest, done, owner, W, hl => by
    rw [List.length_cons] at hl
    obtain ⟨j, e, W'⟩ := own_step hm W (by omega) h
    obtain ⟨owner', f, W2⟩ := fold_g hm rest (done ++ [h]) _ W' (by simp; omega)
    have ea : done ++ [h] ++ rest = done ++ h :: rest := by simp
    rw [ea] at f W2
    refine ⟨owner', ?_, W2⟩
    rw [List.foldl_cons, stepF_some e]
    simpa using f
theorem layClean_g {m : Nat} (hm : PMask m) {hs : Array Int} (hn : hs.size ≤ m) : ∃ owner, SetTable.layClean m hs = some owner ∧ L2.Own m hs.toList owner := by
  obtain ⟨owner, f, W⟩ := fold_g hm hs.toList [] _ (L2.Own.init m) (by simpa using hn)
  refine ⟨owner, ?_, by simpa using W⟩
  have f' : hs.toList.foldl (stepF m) (some (Array.replicate (m + 1) none, 0)) = some (owner, ([] ++ hs.toList).length) := f
  rw [layClean_eq, f']; rfl
theorem relaid_g (t : SetTable) {hs : Array Int} {wanted M : Nat} (hw : SetTable.sizeAbove wanted - 1 = M) (hM : PMask M) (h7 : 7 ≤ M) (hn : hs.size ≤ M) :
    ∃ t' order, t.relaid hs wanted = some (t', order) ∧ order.toList.Perm (List.range hs.size) ∧ TabG t' (order.toList.map fun i => hs.getD i 0) ∧ t'.mask = M ∧ t'.led = t.led ∧ t'.plain = t.plain := by
  obtain ⟨owner, e, W⟩ := layClean_g hM hn
  have hr : t.relaid hs wanted = some (tabOf t M owner, ((liveOf M owner).map (·.2)).toArray) := by rw [relaid_eq, hw, e]; rfl
  obtain ⟨r1, r2⟩ := ris_live (fun j => owner.getD j none) (List.range (M + 1)) (by
    unfold Ris
    first | exact List.pairwise_lt_range | exact List.pairwise_lt_range _)
  have r1 : Ris ((liveOf M owner).map (·.1)) := r1
  have r2 : ∀ x ∈ (liveOf M owner).map (·.1), x ∈ List.range (M + 1) := r2
  have nd : ((liveOf M owner).map (·.1)).Nodup := List.Pairwise.imp (fun h => Nat.ne_of_lt h) r1
  have hlen : (liveOf M owner).length = hs.size := by
    obtain ⟨ps, p1, p2⟩ := W.ps
    have a := nat_nodup_len ((liveOf M owner).map (·.1)) ps nd fun x hx => by
      obtain ⟨⟨y, k⟩, hq, rfl⟩ := List.mem_map.mp hx
      obtain ⟨b1, b2⟩ := (mem_live W.sz).1 hq
      exact p2 y b1 (by rw [b2]; exact fun z => nomatch z)
    have b := nat_nodup_len (List.range hs.size) ((liveOf M owner).map (·.2)) List.nodup_range fun k hk => by
      obtain ⟨j, b1, b2⟩ := W.all k (by rw [Array.length_toList]; exact List.mem_range.mp hk)
      exact List.mem_map.mpr ⟨(j, k), (mem_live W.sz).2 ⟨b1, b2⟩, rfl⟩
    rw [List.length_map, p1] at a
    rw [List.length_map, List.length_range] at b
    have hz : hs.toList.length = hs.size := rfl
    omega
  refine ⟨tabOf t M owner, ((liveOf M owner).map (·.2)).toArray, hr, ?_, ⟨r1, rfl, ?_, hM, h7, fun x hx => ?_, fun i h j h1 h2 => ?_⟩, rfl, rfl, rfl⟩
  · refine perm_range hs.size _ ?_ fun k hk => ?_
    · show ((liveOf M owner).map (·.2)).length = hs.size
      rw [List.length_map]; exact hlen
    · obtain ⟨j, b1, b2⟩ := W.all k (by rw [Array.length_toList]; exact hk)
      exact List.mem_map.mpr ⟨(j, k), (mem_live W.sz).2 ⟨b1, b2⟩, rfl⟩
  · show ((liveOf M owner).map (·.1)).toArray.size = (((liveOf M owner).map (·.2)).map fun i => hs.getD i 0).length
    simp
  · exact Nat.le_of_lt_succ (List.mem_range.mp (r2 x hx))
  · have h1 : (((liveOf M owner).map (·.2)).map fun i => hs.getD i 0)[i]? = some h := h1
    have h2 : ((liveOf M owner).map (·.1))[i]? = some j := h2
    rw [List.getElem?_map, List.getElem?_map] at h1
    rw [List.getElem?_map] at h2
    cases hq : (liveOf M owner)[i]? with
    | none => rw [hq] at h2; cases h2
    | some q =>
      obtain ⟨y, k⟩ := q
      rw [hq] at h1 h2
      have ej : y = j := Option.some.inj h2
      have eh : hs.getD k 0 = h := Option.some.inj h1
      subst ej
      obtain ⟨b1, b2⟩ := (mem_live W.sz).1 (List.mem_of_getElem? hq)
      obtain ⟨h0, K, a1, a2, a3⟩ := W.at_ y k b1 b2
      have e0 : hs.getD k 0 = h0 := by
        rw [Array.getD_eq_getD_getElem?, ← Array.getElem?_toList, a1]; rfl
      have ehh : h0 = h := e0.symm.trans eh
      subst ehh
      refine ⟨K, a2, fun k' hk' => ?_⟩
      show way M h0 k' ∈ (liveOf M owner).map (·.1)
      cases z : oAt owner (way M h0 k') with
      | none => exact absurd z (a3 k' hk')
      | some k2 => exact List.mem_map.mpr ⟨(way M h0 k', k2), (mem_live W.sz).2 ⟨way_le', z⟩, rfl⟩
/-! ### how large the new table is -/
theorem above_go : ∀ (f n e : Nat), n < 2 ^ (e + f) → ∃ e', e ≤ e' ∧ SetTable.sizeAbove.go n f (2 ^ e) = 2 ^ e' ∧ n < 2 ^ e' ∧ (e' = e ∨ 2 ^ e' ≤ 2 * n)
  | 0, n, e, h => ⟨e, Nat.le_refl _, rfl, h, .inl rfl⟩
  | f + 1, n, e, h => by
    unfold SetTable.sizeAbove.go
    by_cases c : 2 ^ e ≤ n
    · rw [if_pos c, show 2 ^ e * 2 = 2 ^ (e + 1) from rfl]
      obtain ⟨e', h1, h2, h3, h4⟩ := above_go f n (e + 1) (by rwa [show e + 1 + f = e + (f + 1) by omega])
      refine ⟨e', by omega, h2, h3, .inr ?_⟩
      rcases h4 with rfl | h4
      · rw [Nat.pow_succ]; omega
      · exact h4
    · rw [if_neg c]
      exact ⟨e, Nat.le_refl _, rfl, by omega, .inl rfl⟩
theorem sizeAbove_spec {n : Nat} (h : n ≤ 1000000) : ∃ e, SetTable.sizeAbove n = 2 ^ e ∧ 3 ≤ e ∧ n < 2 ^ e ∧ (e = 3 ∨ 2 ^ e ≤ 2 * n) := by
  obtain ⟨e, h1, h2, h3, h4⟩ := above_go 64 n 3 (Nat.lt_of_le_of_lt h (by decide))
  exact ⟨e, h2, h1, h3, h4⟩
end PQ

/-! PQ.41: sets of tuples of any kind: searching, adding -/
namespace PQ
open PySem PySem.Spec PyProof.Rows L2
open PySem.SetTable (bits turns)

section
variable {P : Program} {w : World} {A : Around} {E : Value → Shared → Prop} {s : Shared}
/-- asked of a value, the question leaves all as it is -/
def AskAt (P : Program) (w : World) (f : Value → Sem Bool) (B : Bool → Prop) (s : Shared) (v : Value) : Prop := ∀ (A : Around) (E : Value → Shared → Prop) (Q : Bool → Shared → Prop), (∀ b, B b → Q b s) → wpAny (model P w) A (f v) Q E s
theorem ask_tup_a {n : Nat} {a : Addr} {o : Obj} {vs : Array Value} {m : Nat} (ho : s.heap.get? a = some o) (hc : o.cls = .type "tuple") (hd : o.data = .seq vs m) (hq : ∀ v ∈ vs.toList, AskAt P w (ofAClassStatement n) (· = false) s v) : AskAt P w (ofAClassStatement (n + 1)) (· = false) s (.ref a) := fun A E Q h => by
  have hT : s.TypeIs (.ref a) "tuple" := ⟨o, ho, hc⟩
  unfold ofAClassStatement
  refine wpAny_bind (wpAny_typeOf hT ?_)
  dsimp only
  have e : (("tuple" : String) == "tuple") = true := by decide
  simp only [e, if_true, Bool.not_true, Bool.false_eq_true, if_false]
  try refine wpAny_bind (wpAny_pure ?_)
  try simp only [Bool.not_true, Bool.false_eq_true, if_false]
  show wpAny _ _ (seqItems? (.ref a) >>= _) _ _ s
  refine wpAny_bind (wpAny_seqItems ho hd ?_)
  dsimp only
  refine wpAny_bind ?_
  show wpAny _ _ (forIn vs _ _) _ _ s
  rw [← Array.forIn_toList]
  refine wpAny_forIn_list _ (fun rest r s' => r.1 = none ∧ s' = s ∧ ∀ v ∈ rest, AskAt P w (ofAClassStatement n) (· = false) s v) _ ?_ ?_ _ _ ⟨rfl, rfl, hq⟩
  · rintro v rest r s' ⟨hr, rfl, hall⟩
    refine wpAny_bind (hall v List.mem_cons_self _ _ _ ?_)
    rintro b rfl
    simp only [Bool.false_eq_true, if_false]
    exact wpAny_pure ⟨rfl, rfl, fun u hu' => hall u (List.mem_cons_of_mem _ hu')⟩
  · rintro ⟨r1, r2⟩ s' ⟨hr, rfl, _⟩
    simp only at hr
    subst hr
    exact wpAny_pure (h _ rfl)
theorem ask_tup_h {n : Nat} {a : Addr} {o : Obj} {vs : Array Value} {m : Nat} (ho : s.heap.get? a = some o) (hc : o.cls = .type "tuple") (hd : o.data = .seq vs m) (hq : ∀ v ∈ vs.toList, AskAt P w (hashByValue n) (fun _ => True) s v) : AskAt P w (hashByValue (n + 1)) (fun _ => True) s (.ref a) := fun A E Q h => by
  have hT : s.TypeIs (.ref a) "tuple" := ⟨o, ho, hc⟩
  unfold hashByValue
  refine wpAny_bind (wpAny_specialOf hT F.slot_tuple_hash.lookup ?_)
  show wpAny _ _ (seqItems? (.ref a) >>= _) _ _ s
  refine wpAny_bind (wpAny_seqItems ho hd ?_)
  refine wpAny_bind ?_
  show wpAny _ _ (forIn vs _ _) _ _ s
  rw [← Array.forIn_toList]
  refine wpAny_forIn_list _ (fun rest r s' => r.1 = none ∧ s' = s ∧ ∀ v ∈ rest, AskAt P w (hashByValue n) (fun _ => True) s v) _ ?_ ?_ _ _ ⟨rfl, rfl, hq⟩
  · rintro v rest r s' ⟨hr, rfl, hall⟩
    refine wpAny_bind (hall v List.mem_cons_self _ _ _ ?_)
    intro b _
    cases b
    · simp only [Bool.not_false, if_true]
      refine wpAny_pure ?_
      exact wpAny_pure (h _ trivial)
    · simp only [Bool.not_true, Bool.false_eq_true, if_false]
      exact wpAny_pure ⟨rfl, rfl, fun u hu' => hall u (List.mem_cons_of_mem _ hu')⟩
  · rintro ⟨r1, r2⟩ s' ⟨hr, rfl, _⟩
    simp only at hr
    subst hr
    exact wpAny_pure (h _ trivial)
mutual
theorem ofA_key : ∀ (k : NestedKey) (v : Value) (n : Nat), NestedIs s.heap k v → k.depth ≤ n → AskAt P w (ofAClassStatement n) (· = false) s v
  | .none, _, n, x, _ => by cases x; intro A E Q h; rw [show ofAClassStatement n .none = pure false by cases n <;> rfl]; exact wpAny_pure (h _ rfl)
  | .num i, _, n, x, _ => by
    cases x
    · intro A E Q h; rename_i b _; rw [show ofAClassStatement n (.bool b) = pure false by cases n <;> rfl]; exact wpAny_pure (h _ rfl)
    · intro A E Q h; rename_i t; rw [show ofAClassStatement n (.int i t) = pure false by cases n <;> rfl]; exact wpAny_pure (h _ rfl)
  | .text y, _, n, x, _ => by cases x; intro A E Q h; rename_i t; rw [show ofAClassStatement n (.str y t) = pure false by cases n <;> rfl]; exact wpAny_pure (h _ rfl)
  | .tup ks, _, n, x, hn => by
    cases x with
    | tup hg hc hd hk =>
      simp only [NestedKey.depth] at hn
      cases n with
      | zero => omega
      | succ n => exact ask_tup_a hg hc hd (ofA_keys ks _ n hk (by omega))
theorem ofA_keys : ∀ (ks : List NestedKey) (vs : List Value) (n : Nat), NestedAll s.heap ks vs → NestedKey.depthAll ks ≤ n → ∀ v ∈ vs, AskAt P w (ofAClassStatement n) (· = false) s v
  | [], _, n, x, _, v, hv => by cases x; cases hv
  | k :: ks, _, n, x, hn, v, hv => by
    cases x with
    | cons x1 x2 =>
      simp only [NestedKey.depthAll] at hn
      rcases List.mem_cons.mp hv with e | hv
      · rw [e]; exact ofA_key k _ n x1 (by omega)
      · exact ofA_keys ks _ n x2 (by omega) v hv
end
mutual
theorem hb_key : ∀ (k : NestedKey) (v : Value) (n : Nat), NestedIs s.heap k v → k.depth ≤ n → AskAt P w (hashByValue n) (fun _ => True) s v
  | .none, _, n, x, _ => by cases x; intro A E Q h; rw [show hashByValue n .none = pure true by cases n <;> rfl]; exact wpAny_pure (h _ trivial)
  | .num i, _, n, x, _ => by
    cases x
    · intro A E Q h; rename_i b _; rw [show hashByValue n (.bool b) = pure true by cases n <;> rfl]; exact wpAny_pure (h _ trivial)
    · intro A E Q h; rename_i t; rw [show hashByValue n (.int i t) = pure true by cases n <;> rfl]; exact wpAny_pure (h _ trivial)
  | .text y, _, n, x, _ => by cases x; intro A E Q h; rename_i t; rw [show hashByValue n (.str y t) = pure false by cases n <;> rfl]; exact wpAny_pure (h _ trivial)
  | .tup ks, _, n, x, hn => by
    cases x with
    | tup hg hc hd hk =>
      simp only [NestedKey.depth] at hn
      cases n with
      | zero => omega
      | succ n => exact ask_tup_h hg hc hd (hb_keys ks _ n hk (by omega))
theorem hb_keys : ∀ (ks : List NestedKey) (vs : List Value) (n : Nat), NestedAll s.heap ks vs → NestedKey.depthAll ks ≤ n → ∀ v ∈ vs, AskAt P w (hashByValue n) (fun _ => True) s v
  | [], _, n, x, _, v, hv => by cases x; cases hv
  | k :: ks, _, n, x, hn, v, hv => by
    cases x with
    | cons x1 x2 =>
      simp only [NestedKey.depthAll] at hn
      rcases List.mem_cons.mp hv with e | hv
      · rw [e]; exact hb_key k _ n x1 (by omega)
      · exact hb_keys ks _ n x2 (by omega) v hv
end
/-- the tuple at a is the key k -/
abbrev IsN (P : Program) (w : World) (h : Heap) (k : NestedKey) (a : Addr) : Prop := (nestedKind P w).is h k a
abbrev hN (w : World) (k : NestedKey) : Int := NestedKey.hash w k
theorem isN_of {h h' : Heap} {k : NestedKey} {b : Addr} (hb : IsN P w h k b) (hs : ∀ a o vs n, h.get? a = some o → o.data = .seq vs n → h'.get? a = some o) : IsN P w h' k b := ⟨NestedIs.at hs _ _ hb.1, hb.2⟩
theorem isN_same {h h' : Heap} {k : NestedKey} {a b : Addr} {o : Obj} {es : Array (Int × Value)} {ep : Nat} {t : SetTable} (hb : IsN P w h k b) (ho : h.get? a = some o) (hd : o.data = .set es ep t) (hs : Heap.SameBut a h h') : IsN P w h' k b :=
  isN_of hb fun c u vs n e1 e2 => by
    refine (hs.2 c fun z => ?_).trans e1
    subst z
    rw [ho] at e1
    cases e1
    rw [hd] at e2
    cases e2
theorem isN_keep {h h' : Heap} {k : NestedKey} {b : Addr} (x : IsN P w h k b) (hk : ∀ c o, h.get? c = some o → h'.get? c = some o) : IsN P w h' k b := isN_of x fun c u vs n e _ => hk c u e
theorem seen_n {k : NestedKey} {b : Addr} {Q : Bool → Shared → Prop} (hk : IsN P w s.heap k b) {ys : List Value} (hy : ∀ y ∈ ys, ∃ k' c, y = Value.ref c ∧ IsN P w s.heap k' c) (h : Q false s) :
    wpAny (model P w) A (searchCouldBeSeen (.ref b) ys) Q E s := by
  unfold searchCouldBeSeen
  refine wpAny_bind ?_
  refine wpAny_forIn_list _ (fun rest r s' => r.1 = none ∧ s' = s ∧ ∀ y ∈ rest, ∃ k' c, y = Value.ref c ∧ IsN P w s.heap k' c) _ ?_ ?_ _ _ ⟨rfl, rfl, hy⟩
  · rintro v rest r s' ⟨hr, rfl, hall⟩
    obtain ⟨k', c, rfl, hc⟩ := hall v List.mem_cons_self
    have rest' : ∀ y ∈ rest, ∃ k' c, y = Value.ref c ∧ IsN P w s'.heap k' c := fun u hu' => hall u (List.mem_cons_of_mem _ hu')
    dsimp only
    by_cases hv : (b == c || (carriedByValue (.ref b) && carriedByValue (.ref c))) = true
    · refine wp_if_pos hv ?_
      exact wpAny_pure ⟨rfl, rfl, rest'⟩
    · refine wp_if_neg hv ?_
      refine wpAny_bind ((nestedKind P w).quiet hk ?_)
      simp only [Bool.not_true, Bool.false_eq_true, if_false]
      refine wpAny_bind ((nestedKind P w).quiet hc ?_)
      simp only [Bool.not_true, Bool.false_eq_true, if_false]
      refine wpAny_bind (ofA_key k _ 8 hk.1 hk.2 _ _ _ ?_)
      rintro _ rfl
      simp only [Bool.false_eq_true, if_false]
      refine wpAny_bind (ofA_key k' _ 8 hc.1 hc.2 _ _ _ ?_)
      rintro _ rfl
      simp only [Bool.false_eq_true, if_false]
      exact wpAny_pure ⟨rfl, rfl, rest'⟩
  · rintro ⟨r1, r2⟩ s' ⟨hr, rfl, _⟩
    simp only at hr
    subst hr
    exact wpAny_pure h
end
end PQ

/-! PQ.42: a set of tuples: the search, adding, laying anew -/
namespace PQ
open PySem PySem.Spec PyProof.Rows L2
open PySem.SetTable (bits turns)

abbrev KeyL := List (Addr × NestedKey)
def rowsN (w : World) (L : KeyL) : List (Int × Value) := L.map fun p => (hN w p.2, Value.ref p.1)
structure SetN (P : Program) (w : World) (h : Heap) (a : Addr) (L : KeyL) (es : Array (Int × Value)) (ep : Nat) (t : SetTable) : Prop where
  ob : ∃ o, h.get? a = some o ∧ o.ExactSet ∧ o.data = .set es ep t
  rows : es.toList = rowsN w L
  tab : TabG t (L.map fun p => hN w p.2)
  nd : (L.map (·.2)).Nodup
  tup : ∀ p ∈ L, IsN P w h p.2 p.1
  led : w.params.followText "set-order" = true ∨ t.led = true
  room : L.length * 5 < t.mask * 3
  few : L.length ≤ 6000
section
variable {P : Program} {w : World} {A : Around} {E : Value → Shared → Prop} {s : Shared}
variable {a : Addr} {L : KeyL} {es : Array (Int × Value)} {ep : Nat} {t : SetTable}
theorem rows_size (hr : es.toList = rowsN w L) : es.size = L.length := by
  have h := congrArg List.length hr
  unfold rowsN at h
  rwa [Array.length_toList, List.length_map] at h
theorem SetN.size (R : SetN P w s.heap a L es ep t) : es.size = L.length := rows_size R.rows
theorem fits_g (h1 : t.place.size = es.size) (h2 : t.dummies = #[]) (h3 : es.size ≤ t.mask) : t.fits es.size = true := by
  unfold SetTable.fits SetTable.fill
  rw [h2, Bool.and_eq_true, beq_iff_eq, decide_eq_true_eq]
  show t.place.size = es.size ∧ t.place.size + 0 ≤ t.mask
  omega
theorem SetN.fits (R : SetN P w s.heap a L es ep t) : t.fits es.size = true := by
  have h1 := R.tab.sz
  rw [List.length_map] at h1
  have h3 := R.room
  exact fits_g (by rw [h1, R.size]) R.tab.dm (by rw [R.size]; omega)
theorem SetN.entry (R : SetN P w s.heap a L es ep t) {i : Nat} {p : Addr × NestedKey} (h : L[i]? = some p) : es[i]? = some (hN w p.2, Value.ref p.1) := by
  rw [← Array.getElem?_toList, R.rows]
  unfold rowsN
  rw [List.getElem?_map, h]; rfl
theorem SetN.gw (R : SetN P w s.heap a L es ep t) : ¬ t.gaveWay = true := by
  unfold SetTable.gaveWay
  rw [pmask_odd R.tab.pm R.tab.m7]
  decide
/-- THE SEARCH: from the c-th step of the way on -/
theorem search_n (R : SetN P w s.heap a L es ep t) {x : Addr} {k : NestedKey} (hx : IsN P w s.heap k x) (hu : (nestedKind P w).room A) {K : Nat} (hKf : K < 10 * turns t.mask)
    (hK : way t.mask (hN w k) K ∉ t.place.toList) (hKb : ∀ c, c < K → way t.mask (hN w k) c ∈ t.place.toList) {Q : SetFound → Shared → Prop}
    (hin : k ∈ L.map (·.2) → Q (.there none) s) (hout : k ∉ L.map (·.2) → Q (.free (way t.mask (hN w k) K) false) s) :
    ∀ (f c : Nat) (stand : Option SetTable.Probe), stand.getD (t.probeStart (hN w k)) = nth t.mask (runAt t.mask (bits (hN w k) % (t.mask + 1)) (bits (hN w k))) c → c ≤ K → K - c < f →
      (∀ (i : Nat) p, L[i]? = some p → p.2 = k → ∃ c', c ≤ c' ∧ c' < K ∧ t.place.toList[i]? = some (way t.mask (hN w k) c')) →
      wpAny (model P w) A (setSearchFrom a (.ref x) (hN w k) true f stand) Q E s
  | 0, c, stand, _, _, hf, _ => absurd hf (Nat.not_lt_zero _)
  | f + 1, c, stand, hst, hc, hf, hre => by
    obtain ⟨o, ho, hex, hd⟩ := R.ob
    rw [setSearchFrom_succ]
    refine wpAny_bind (wpAny_setState_of ho hd R.fits ?_)
    dsimp only
    refine wp_if_neg R.gw ?_
    try refine wpAny_bind (wpAny_pure ?_)
    generalize hp0 : runAt t.mask (bits (hN w k) % (t.mask + 1)) (bits (hN w k)) = p0 at hst
    have hway : ∀ q, way t.mask (hN w k) q = (nth t.mask p0 q).j := fun q => by rw [← hp0]
    have hnd : (nth t.mask p0 c).dummy = none := by
      have key : ∀ (n : Nat) (p : SetTable.Probe), p.dummy = none → (nth t.mask p n).dummy = none := by
        intro n
        induction n with
        | zero => intro p h; exact h
        | succ n ih =>
          intro p h
          refine ih (adv t.mask p) ?_
          unfold adv
          split <;> exact h
      rw [← hp0]
      exact key c _ rfl
    have e1 : ∀ q, (nth t.mask (nth t.mask p0 c) q).j = way t.mask (hN w k) (c + q) := fun q => by rw [hway, ← nth_add]
    have spec := go_spec t R.tab.ris R.tab.dm (fun i => (es[i]?.map (·.1)).getD 0) (hN w k) (10 * turns t.mask) (K - c) _ hnd (by omega)
      (fun q hq => by rw [e1]; exact hKb (c + q) (by omega)) (by rw [e1, show c + (K - c) = K by omega]; exact hK)
    have hashAt : ∀ (i : Nat) p, L[i]? = some p → (fun i => (es[i]?.map (·.1)).getD 0) i = hN w p.2 := fun i p hp => by
      show (es[i]?.map (·.1)).getD 0 = _
      rw [R.entry hp]; rfl
    rcases spec with ⟨q, i, hq, hi, hh, hno, hpr⟩ | ⟨hno, hpr⟩
    · have hpr' : t.probe (fun i => (es[i]?.map (·.1)).getD 0) (hN w k) (stand.getD (t.probeStart (hN w k))) = some (.candidate (way t.mask (hN w k) (c + q)) i (nth t.mask p0 (c + (q + 1)))) := by
        rw [hst, ← e1, nth_add]
        exact hpr
      rw [hpr']
      dsimp only
      rw [e1] at hi
      have hil : i < L.length := by
        have h1 : i < t.place.toList.length := (List.getElem?_eq_some_iff.mp hi).1
        have h2 := R.tab.sz
        rw [List.length_map] at h2
        rw [Array.length_toList] at h1
        omega
      have hp : L[i]? = some L[i] := List.getElem?_eq_getElem hil
      generalize hpe : L[i] = p at hp
      have hmem : p ∈ L := List.mem_of_getElem? hp
      have hpt := R.tup p hmem
      have rest : wpAny (model P w) A (searchRest a (.ref x) (hN w k) true f es t (way t.mask (hN w k) (c + q)) i (nth t.mask p0 (c + (q + 1)))) Q E s := by
        unfold searchRest
        rw [R.entry hp]
        dsimp only
        refine wpAny_bind (wpAny_holding ((nestedKind P w).eqBool hu hpt hx ?_))
        refine wpAny_bind (wpAny_setState_of ho hd R.fits ?_)
        dsimp only
        by_cases hkk : p.2 = k
        · refine wp_if_pos (by simp [hkk]) ?_
          refine wpAny_pure (hin ?_)
          exact List.mem_map.mpr ⟨p, hmem, hkk⟩
        · refine wp_if_neg (by simp [hkk]) ?_
          try refine wpAny_bind (wpAny_pure ?_)
          rw [sameMem]
          dsimp only
          have hsl : t.slot (way t.mask (hN w k) (c + q)) = .live i := slot_live R.tab.ris hi
          simp only [if_true, hsl, R.entry hp]
          refine wpAny_bind (wpAny_isSame_ref_self (wpAny_bind (wpAny_pure ?_)))
          simp only [if_true]
          refine wp_if_neg (by simp [hkk]) ?_
          refine search_n R hx hu hKf hK hKb hin hout f (c + (q + 1)) _ (by rw [hp0]; rfl) (by omega) (by omega) fun i0 p1 h0 hk0 => ?_
          obtain ⟨c', a1, a2, a3⟩ := hre i0 p1 h0 hk0
          refine ⟨c', ?_, a2, a3⟩
          rcases Nat.lt_or_ge c' (c + q) with z | z
          · exfalso
            refine hno (c' - c) i0 (by omega) (by rw [e1, show c + (c' - c) = c' by omega]; exact a3) ?_
            exact (hashAt i0 p1 h0).trans (congrArg (hN w) hk0)
          · rcases Nat.lt_or_ge (c + q) c' with y | y
            · omega
            · exfalso
              have ec : c' = c + q := Nat.le_antisymm y z
              rw [ec] at a3
              have s0 := slot_live R.tab.ris a3
              rw [hsl] at s0
              injection s0 with s0
              rw [← s0, hp] at h0
              exact hkk ((congrArg Prod.snd (Option.some.inj h0)).trans hk0)
      by_cases hl : t.led = true
      · refine wp_if_neg (by simp [hl]) ?_
        try refine wpAny_bind (wpAny_pure ?_)
        exact rest
      · refine wp_if_pos (by simp [hl]) ?_
        refine wpAny_bind (seen_n hx (fun y hy => ?_) ?_)
        · obtain ⟨e, he, ee⟩ := List.mem_map.mp hy
          have he1 : e ∈ es ∧ e.1 = hN w k := by simpa using he
          have he2 : e ∈ es.toList := by simpa using he1.1
          rw [R.rows] at he2
          obtain ⟨p2, hp2, e2⟩ := List.mem_map.mp he2
          refine ⟨p2.2, p2.1, ?_, R.tup p2 hp2⟩
          rw [← ee, ← e2]
        · refine wp_if_neg (by decide) ?_
          try refine wpAny_bind (wpAny_pure ?_)
          exact rest
    · have hpr' : t.probe (fun i => (es[i]?.map (·.1)).getD 0) (hN w k) (stand.getD (t.probeStart (hN w k))) = some (.empty (way t.mask (hN w k) K) none) := by
        have e2 : way t.mask (hN w k) K = (nth t.mask (nth t.mask p0 c) (K - c)).j := by rw [e1, show c + (K - c) = K by omega]
        rw [hst, e2]
        exact hpr
      rw [hpr']
      dsimp only
      refine wpAny_pure (hout fun hm => ?_)
      obtain ⟨p1, h0, hk0⟩ := List.mem_map.mp hm
      obtain ⟨i0, hi0, e0⟩ := List.getElem_of_mem h0
      have h00 : L[i0]? = some p1 := by rw [List.getElem?_eq_getElem hi0, e0]
      obtain ⟨c', a1, a2, a3⟩ := hre i0 p1 h00 hk0
      refine hno (c' - c) i0 (by omega) (by rw [e1, show c + (c' - c) = c' by omega]; exact a3) ?_
      exact (hashAt i0 p1 h00).trans (congrArg (hN w) hk0)
/-- the search as adding asks for it -/
theorem search_add (R : SetN P w s.heap a L es ep t) {x : Addr} {k : NestedKey} (hx : IsN P w s.heap k x) (hu : (nestedKind P w).room A) {Q : SetFound → Shared → Prop}
    (hin : k ∈ L.map (·.2) → Q (.there none) s)
    (hout : ∀ K, k ∉ L.map (·.2) → way t.mask (hN w k) K ∉ t.place.toList → (∀ c, c < K → way t.mask (hN w k) c ∈ t.place.toList) → Q (.free (way t.mask (hN w k) K) false) s) :
    wpAny (model P w) A (setSearch a (.ref x) (hN w k) true) Q E s := by
  have hroom := R.room
  have hfew := R.few
  obtain ⟨K, hKf, hK, hKb⟩ := R.tab.first (by rw [List.length_map]; omega) (hN w k)
  rw [List.length_map] at hKf
  unfold setSearch
  refine search_n R hx hu (by unfold turns; omega) hK hKb hin (fun hn => hout K hn hK hKb) 100000 0 none rfl (Nat.zero_le _) (by omega) fun i p hp hk => ?_
  have hi : (L.map fun p => hN w p.2)[i]? = some (hN w k) := by rw [List.getElem?_map, hp, ← hk]; rfl
  have hil : i < t.place.toList.length := by
    have h1 : i < L.length := (List.getElem?_eq_some_iff.mp hp).1
    have h2 := R.tab.sz
    rw [List.length_map] at h2
    rw [Array.length_toList]
    omega
  have hj := List.getElem?_eq_getElem hil
  obtain ⟨c, hc, e⟩ := R.tab.before hK hi hj
  exact ⟨c, Nat.zero_le _, hc, by rw [hj, e]⟩
end
end PQ

/-! PQ.43: a set of tuples: adding, laying anew -/
namespace PQ
open PySem PySem.Spec PyProof.Rows L2
open PySem.SetTable (bits turns)
section
variable {P : Program} {w : World} {A : Around} {E : Value → Shared → Prop} {s : Shared}
variable {a : Addr} {L : KeyL} {es : Array (Int × Value)} {ep : Nat} {t : SetTable}
theorem rows_put_n (L : KeyL) (p : Nat) (x : Addr) (k : NestedKey) : rowsN w (L.take p ++ (x, k) :: L.drop p) = (rowsN w L).take p ++ (hN w k, Value.ref x) :: (rowsN w L).drop p := by
  unfold rowsN
  rw [List.map_append, List.map_cons, List.map_take, List.map_drop]
theorem order_n (L : KeyL) (es : Array (Int × Value)) (order : Array Nat) (hr : es.toList = rowsN w L) (hp : order.toList.Perm (List.range L.length)) :
    ∃ L2, (order.filterMap (es[·]?)).toList = rowsN w L2 ∧ L2.Perm L ∧ (L2.map fun p => hN w p.2) = order.toList.map fun i => (es.map (·.1)).getD i 0 := by
  have hsz := rows_size hr
  have ent : ∀ i (h : i < L.length), es[i]? = some (hN w (L[i]).2, Value.ref (L[i]).1) := fun i h => by
    rw [← Array.getElem?_toList, hr]
    unfold rowsN
    rw [List.getElem?_map, List.getElem?_eq_getElem h]; rfl
  have key : ∀ l : List Nat, (∀ i ∈ l, i < L.length) → ∃ L2 : KeyL, l.filterMap (fun i => es[i]?) = rowsN w L2 ∧ L2 = l.filterMap (fun i => L[i]?) ∧ (L2.map fun p => hN w p.2) = l.map fun i => (es.map (·.1)).getD i 0 := by
    intro l
    induction l with
    | nil => intro _; exact ⟨[], rfl, rfl, rfl⟩
    | cons i l ih =>
      intro hl
      have hi := hl i List.mem_cons_self
      obtain ⟨L2, e1, e2, e3⟩ := ih fun j hj => hl j (List.mem_cons_of_mem _ hj)
      refine ⟨L[i] :: L2, ?_, ?_, ?_⟩
      · rw [List.filterMap_cons_some (ent i hi), e1]; rfl
      · rw [List.filterMap_cons_some (List.getElem?_eq_getElem hi), e2]
      · rw [List.map_cons, List.map_cons, e3]
        have e5 : (es.map (·.1))[i]? = some (hN w (L[i]).2) := by rw [Array.getElem?_map, ent i hi]; rfl
        have e4 : (es.map (·.1)).getD i 0 = hN w (L[i]).2 := by simp [Array.getD_eq_getD_getElem?, e5]
        rw [e4]
  obtain ⟨L2, e1, e2, e3⟩ := key order.toList fun i hi => List.mem_range.mp (hp.mem_iff.mp hi)
  refine ⟨L2, by first | (rw [Array.toList_filterMap]; exact e1) | simpa using e1, ?_, e3⟩
  have h1 : L2.Perm ((List.range L.length).filterMap fun i => L[i]?) := by rw [e2]; exact hp.filterMap _
  have h2 : (List.range L.length).filterMap (fun i => L[i]?) = L := by
    have key2 : ∀ n, n ≤ L.length → (List.range n).filterMap (fun i => L[i]?) = L.take n := by
      intro n
      induction n with
      | zero => intro _; rfl
      | succ n ih =>
        intro hn
        have hlt : n < L.length := hn
        rw [List.range_succ, List.filterMap_append, ih (Nat.le_of_lt hlt), List.take_succ, List.getElem?_eq_getElem hlt, List.filterMap_cons_some (List.getElem?_eq_getElem hlt)]
        rfl
    rw [key2 L.length (Nat.le_refl _), List.take_length]
  rwa [h2] at h1
/-- the table laid anew, larger -/
theorem relay_n {o : Obj} (ho : s.heap.get? a = some o) (hex : o.ExactSet) (hd : o.data = .set es ep t) (hrows : es.toList = rowsN w L) (hsz : t.place.size = es.size) (hdm : t.dummies = #[]) (hfl : es.size ≤ t.mask)
    (nd : (L.map (·.2)).Nodup) (tup : ∀ p ∈ L, IsN P w s.heap p.2 p.1) (ld : w.params.followText "set-order" = true ∨ t.led = true) (few : L.length ≤ 6000) {Q : Unit → Shared → Prop}
    (hQ : ∀ h' L' es' ep' t', Heap.SameBut a s.heap h' → SetN P w h' a L' es' ep' t' → L'.Perm L → Q () { s with heap := h' }) : wpAny (model P w) A (setRelay a (SetTable.grown L.length)) Q E s := by
  have hsl := rows_size hrows
  have hfits := fits_g hsz hdm hfl
  have hgr : SetTable.grown L.length = L.length * 4 := by unfold SetTable.grown; rw [if_neg (by omega)]
  obtain ⟨e, he, e3, hlt, hle⟩ := sizeAbove_spec (n := SetTable.grown L.length) (by rw [hgr]; omega)
  have hp8 : 8 ≤ 2 ^ e := by
    have := Nat.pow_le_pow_right (n := 2) (by omega) e3
    simpa using this
  have hup : 2 ^ e ≤ 1000000 := by
    rcases hle with rfl | hle
    · decide
    · rw [hgr] at hle; omega
  rw [hgr] at hlt
  obtain ⟨t', order, e', hp, T, em, el, ep'⟩ := relaid_g t (hs := es.map (·.1)) (wanted := SetTable.grown L.length) (M := 2 ^ e - 1) (by rw [he]) ⟨e, by omega⟩ (by omega) (by rw [Array.size_map, hsl]; omega)
  rw [Array.size_map, hsl] at hp
  obtain ⟨L2, r1, r2, r3⟩ := order_n L es order hrows hp
  rw [← r3] at T
  have hs2 : (order.filterMap (es[·]?)).size = es.size := by rw [rows_size r1, r2.length_eq, hsl]
  rw [setRelay_eq]
  refine wpAny_bind (wpAny_setState_of ho hd hfits ?_)
  dsimp only
  refine wp_if_neg (by rw [he, sizeLine_eq]; omega) ?_
  try refine wpAny_bind (wpAny_pure ?_)
  rw [e']
  dsimp only
  refine wpAny_bind ?_
  refine wp_if_neg (by rw [hs2]; simp) ?_
  try refine wpAny_bind (wpAny_pure ?_)
  refine wpAny_pure ?_
  dsimp only
  refine wpAny_storeSet_of ho hd ?_ (by rw [hs2, hsl, sizeLine_eq]; omega)
  have sb : Heap.SameBut a s.heap (s.heap.update a (Obj.putSet (order.filterMap (es[·]?)) t')) := Heap.SameBut.update ..
  refine hQ _ L2 (order.filterMap (es[·]?)) (ep + 1) t' sb ⟨⟨_, store_at ho hd, ⟨hex.1, hex.2.1, hex.2.2⟩, rfl⟩, r1, T, (r2.map (·.2)).nodup_iff.mpr nd, fun p hpm => isN_same (tup p (r2.mem_iff.mp hpm)) ho hd sb, by rw [el]; exact ld, ?_, by rw [r2.length_eq]; exact few⟩ r2
  rw [r2.length_eq, em]
  omega
theorem tab_plain {t : SetTable} {hs : List Int} (T : TabG t hs) : TabG { t with plain := false } hs := ⟨T.ris, T.dm, T.sz, T.pm, T.m7, T.bd, T.reach⟩
/-- ADDING -/
theorem add_n (R : SetN P w s.heap a L es ep t) {x : Addr} {k : NestedKey} (hx : IsN P w s.heap k x) (hu : (nestedKind P w).room A) (hfew : L.length + 1 ≤ 6000) {Q : Bool → Shared → Prop}
    (hQ : ∀ b h' L' es' ep' t', Heap.SameBut a s.heap h' → SetN P w h' a L' es' ep' t' → (k ∈ L.map (·.2) → L' = L) → (k ∉ L.map (·.2) → L'.Perm ((x, k) :: L)) → Q b { s with heap := h' }) :
    wpAny (model P w) A (setAddHashed a (.ref x) (hN w k)) Q E s := by
  obtain ⟨o, ho, hex, hd⟩ := R.ob
  have hsl := R.size
  have hroom := R.room
  unfold setAddHashed
  refine wpAny_holding ?_
  rw [show (100000 : Nat) = 99999 + 1 from rfl, setAddHashedIn_succ]
  refine wpAny_bind (wpAny_setState_of ho hd R.fits ?_)
  dsimp only
  refine wp_if_neg (by simp [byScan, Value.scannable]) ?_
  try refine wpAny_bind (wpAny_pure ?_)
  refine wpAny_bind (search_add R hx hu (fun hm => ?_) fun K hm hK hb => ?_)
  · dsimp only
    exact wpAny_pure (hQ false s.heap L es ep t (Heap.SameBut.refl a s.heap) R (fun _ => rfl) fun z => absurd hm z)
  · dsimp only
    refine wpAny_bind (wpAny_setState_of ho hd R.fits ?_)
    dsimp only
    obtain ⟨p, q1, q2, q3, q4, q5, q6, q9⟩ := R.tab.put hK hb
    generalize hpt : t.put (way t.mask (hN w k) K) = pt at q1 q3 q4 q5 q6 q9 ⊢
    obtain ⟨t1, p'⟩ := pt
    dsimp only at q1 q3 q4 q5 q6 q9 ⊢
    subst q1
    rw [List.length_map] at q2
    have hin : (SetTable.insertAt es p' (hN w k, Value.ref x)).toList = rowsN w (L.take p' ++ (x, k) :: L.drop p') := by rw [SetTable.toList_insertAt, rows_put_n, R.rows]
    have pm := put_perm L p' (x, k)
    have hlen : (L.take p' ++ (x, k) :: L.drop p').length = L.length + 1 := pm.length_eq
    have hhs : (L.take p' ++ (x, k) :: L.drop p').map (fun p => hN w p.2) = (L.map fun p => hN w p.2).take p' ++ hN w k :: (L.map fun p => hN w p.2).drop p' := by
      rw [List.map_append, List.map_cons, List.map_take, List.map_drop]
    rw [← hhs] at q3
    have nd1 : ((L.take p' ++ (x, k) :: L.drop p').map (·.2)).Nodup := by
      refine (pm.map (·.2)).nodup_iff.mpr ?_
      rw [List.map_cons]
      exact List.nodup_cons.mpr ⟨hm, R.nd⟩
    have hes : (SetTable.insertAt es p' (hN w k, Value.ref x)).size = L.length + 1 := by rw [rows_size hin, hlen]
    generalize SetTable.insertAt es p' (hN w k, Value.ref x) = es1 at hin hes ⊢
    generalize L.take p' ++ (x, k) :: L.drop p' = L1 at pm hlen q3 nd1 hin
    -- with a table that says the same but for plain
    have fin : ∀ t2 : SetTable, TabG t2 (L1.map fun p => hN w p.2) → t2.mask = t.mask → t2.led = t.led → t2.fill = L.length + 1 →
        wpAny (model P w) A (do
          storeSet a es1 t2
          if !false && t2.tooFull then setRelay a (SetTable.grown (es.size + 1))
          return true) Q E s := by
      intro t2 T2 m2 l2 f2
      refine wpAny_bind (wpAny_storeSet_of ho hd ?_ (by rw [hes, sizeLine_eq]; omega))
      have sb : Heap.SameBut a s.heap (s.heap.update a (Obj.putSet es1 t2)) := Heap.SameBut.update ..
      have ho1 := store_at (es' := es1) (t' := t2) ho hd
      generalize s.heap.update a (Obj.putSet es1 t2) = h1 at sb ho1 ⊢
      have tup1 : ∀ p ∈ L1, IsN P w h1 p.2 p.1 := fun p hp => by
        rcases List.mem_cons.mp (pm.mem_iff.mp hp) with e | hp
        · rw [e]; exact isN_same hx ho hd sb
        · exact isN_same (R.tup p hp) ho hd sb
      have ld1 : w.params.followText "set-order" = true ∨ t2.led = true := by rw [l2]; exact R.led
      have hsz1 : t2.place.size = es1.size := by
        have h := T2.sz
        rw [List.length_map, hlen] at h
        rw [h, hes]
      by_cases hf : t2.tooFull = true
      · first
          | (refine wpAny_bind ?_; refine wp_if_pos (by simp [hf]) ?_)
          | (refine wp_if_pos (by simp [hf]) ?_; refine wpAny_bind ?_)
        have e0 : es.size + 1 = L1.length := by rw [hsl, hlen]
        rw [e0]
        refine relay_n (s := { s with heap := h1 }) ho1 ⟨hex.1, hex.2.1, hex.2.2⟩ rfl hin hsz1 T2.dm (by rw [hes, m2]; omega) nd1 tup1 ld1 (by rw [hlen]; exact hfew) ?_
        intro h2 L2 es2 ep2 t3 sb2 R2 pm2
        exact wpAny_pure (hQ true h2 L2 es2 ep2 t3 (sb.trans sb2) R2 (fun z => absurd z hm) fun _ => pm2.trans pm)
      · first
          | refine wp_if_neg (by simp [hf]) ?_
          | (refine wpAny_bind ?_; refine wp_if_neg (by simp [hf]) ?_; refine wpAny_pure ?_)
        refine wpAny_pure (hQ true h1 L1 es1 (ep + 1) t2 sb ⟨⟨_, ho1, ⟨hex.1, hex.2.1, hex.2.2⟩, rfl⟩, hin, T2, nd1, tup1, ld1, ?_, by rw [hlen]; exact hfew⟩ (fun z => absurd z hm) fun _ => pm)
        unfold SetTable.tooFull at hf
        rw [decide_eq_true_eq, f2] at hf
        rw [hlen]
        omega
    have f1 : t1.fill = L.length + 1 := by rw [q9, List.length_map]
    by_cases hp1 : t1.plain = true
    · first
        | (refine wpAny_bind ?_; refine wp_if_pos hp1 ?_; refine hb_key k _ 8 hx.1 hx.2 _ _ _ ?_)
        | refine wp_if_pos hp1 (wpAny_bind (hb_key k _ 8 hx.1 hx.2 _ _ _ ?_))
      intro b _
      cases b
      · exact fin { t1 with plain := false } (tab_plain q3) q4 q5 f1
      · exact fin t1 q3 q4 q5 f1
    · first
        | (refine wpAny_bind ?_; refine wp_if_neg hp1 ?_; refine wpAny_pure ?_)
        | refine wp_if_neg hp1 (wpAny_bind (wpAny_pure ?_))
        | refine wp_if_neg hp1 ?_
      exact fin t1 q3 q4 q5 f1
end
end PQ

/-! PQ.44: set(xs), xs a list of tuples -/
namespace PQ
open PySem PySem.Spec PyProof.Rows L2

/-- what the set has got from the first i items -/
structure GotN (ks : KeyL) (i : Nat) (L : KeyL) : Prop where
  sub : ∀ p ∈ L, p ∈ ks.take i
  all : ∀ p ∈ ks.take i, p.2 ∈ L.map (·.2)
  len : L.length ≤ i
theorem GotN.zero (ks : KeyL) : GotN ks 0 [] := ⟨fun p h => (by cases h), fun p h => (by simp at h), Nat.le_refl _⟩
theorem GotN.same {ks L : KeyL} {i : Nat} {x : Addr × NestedKey} (g : GotN ks i L) (h : ks[i]? = some x) (hm : x.2 ∈ L.map (·.2)) : GotN ks (i + 1) L := by
  refine ⟨fun p hp => ?_, fun p hp => ?_, Nat.le_succ_of_le g.len⟩
  · rw [take_next h]; exact List.mem_append_left _ (g.sub p hp)
  · rw [take_next h] at hp
    rcases List.mem_append.mp hp with z | z
    · exact g.all p z
    · rw [List.mem_singleton.mp z]; exact hm
theorem GotN.more {ks L L' : KeyL} {i : Nat} {x : Addr × NestedKey} (g : GotN ks i L) (h : ks[i]? = some x) (pm : L'.Perm (x :: L)) : GotN ks (i + 1) L' := by
  refine ⟨fun p hp => ?_, fun p hp => ?_, ?_⟩
  · rw [take_next h]
    rcases List.mem_cons.mp (pm.mem_iff.mp hp) with e | z
    · rw [e]; exact List.mem_append_right _ (List.mem_singleton.mpr rfl)
    · exact List.mem_append_left _ (g.sub p z)
  · rw [(pm.map (·.2)).mem_iff, List.map_cons]
    rw [take_next h] at hp
    rcases List.mem_append.mp hp with z | z
    · exact List.mem_cons_of_mem _ (g.all p z)
    · rw [List.mem_singleton.mp z]; exact List.mem_cons_self
  · rw [pm.length_eq, List.length_cons]; exact Nat.succ_le_succ g.len

section
variable {P : Program} {w : World} {A : Around} {E : Value → Shared → Prop} {s : Shared}
theorem SetN.keep {h h' : Heap} {a : Addr} {L : KeyL} {es : Array (Int × Value)} {ep : Nat} {t : SetTable} (R : SetN P w h a L es ep t) (ha : ∀ o, h.get? a = some o → h'.get? a = some o) (ht : ∀ p ∈ L, IsN P w h' p.2 p.1) : SetN P w h' a L es ep t := by
  obtain ⟨o, ho, r⟩ := R.ob
  exact ⟨⟨o, ha o ho, r⟩, R.rows, R.tab, R.nd, ht, R.led, R.room, R.few⟩
theorem setN_fresh {h : Heap} {a : Addr} (ho : h.get? a = some { cls := .type "set", dict := none, data := .set #[] 0 (.fresh 0 0 (!w.params.followText "set-order")) }) : SetN P w h a [] #[] 0 (.fresh 0 0 (!w.params.followText "set-order")) where
  ob := ⟨_, ho, ⟨rfl, rfl, rfl⟩, rfl⟩
  rows := rfl
  tab := ⟨List.Pairwise.nil, rfl, rfl, ⟨3, rfl⟩, Nat.le_refl _, fun x hx => (by cases hx), fun i h j hi => (by simp at hi)⟩
  nd := List.nodup_nil
  tup := fun p hp => (by cases hp)
  led := by
    show _ ∨ (!w.params.followText "set-order") = true
    cases w.params.followText "set-order"
    · exact .inr rfl
    · exact .inl rfl
  room := by show 0 * 5 < 7 * 3; decide
  few := Nat.zero_le _

/-- set.update's loop -/
theorem set_update_n {I : Addr} {fp wr : List Addr} {G : Array GenState → Array GenState → Prop} {n : Nat} {Pv : Nat → Value → Prop} {St : Nat → Shared → Prop} {R : Result → Shared → Prop}
    (W : WalksS P w A.in1 I fp wr G n Pv St) (S : Addr) (hSf : S ∉ fp) (ks : KeyL) (hn : n = ks.length) (hfew : ks.length ≤ 6000) (hval : ∀ i v, Pv i v → ∃ p, ks[i]? = some p ∧ v = .ref p.1)
    (h0 : Heap) (hk : ∀ p ∈ ks, IsN P w h0 p.2 p.1) (hS0 : h0.get? S = none) (hw0 : ∀ b ∈ wr, h0.get? b = none) (hu : (nestedKind P w).room A.in1) :
    ∀ (k i : Nat) (s : Shared), n - i = k → i ≤ n → St i s → (∀ b o, h0.get? b = some o → s.heap.get? b = some o) → (∃ L es ep t, SetN P w s.heap S L es ep t ∧ GotN ks i L) →
      (∀ s' L es ep t, Moved (S :: wr) G s s' → SetN P w s'.heap S L es ep t → GotN ks n L → (∀ b o, h0.get? b = some o → s'.heap.get? b = some o) → R (.ok (.ret .none)) s') →
      codeAny (model P w) A (.builtin "set.update.loop" ⟨[.ref S, .ref I], []⟩) R s := by
  have hSw : S ∉ wr := fun h => hSf (W.sub _ h)
  have hsub : ∀ b ∈ wr, b ∈ S :: wr := fun b hb => List.mem_cons_of_mem _ hb
  have keepM : ∀ {s s' : Shared}, Moved wr G s s' → (∀ b o, h0.get? b = some o → s.heap.get? b = some o) → ∀ b o, h0.get? b = some o → s'.heap.get? b = some o := fun hm hkp b o e =>
    hm.heap b o (fun hb => by rw [hw0 b hb] at e; cases e) (hkp b o e)
  intro k
  induction k with
  | zero =>
    intro i s hk' hi hst hkp ⟨L, es, ep, t, hS, g⟩ hR
    have hin : i = n := by omega
    subst hin
    refine codeAny_builtin F.entry_set_update_loop ?_
    rw [Around.under_plainId F.plain_set_update_loop _]
    show wpAny _ A.in1 (pyNext (.ref I) >>= _) _ _ s
    refine wpAny_bind (W.done s _ _ hst fun s' hm => ?_)
    show wpAny _ A.in1 (ret Value.none) _ _ s'
    have hkp' := keepM hm hkp
    have sub : ∀ p ∈ L, p ∈ ks := fun p hp => List.mem_of_mem_take (g.sub p hp)
    exact wpAny_pure (hR s' L es ep t (hm.mono hsub) (hS.keep (fun o e => hm.heap S o hSw e) fun p hp => isN_keep (hk p (sub p hp)) hkp') g hkp')
  | succ k ih =>
    intro i s hk' hi hst hkp ⟨L, es, ep, t, hS, g⟩ hR
    have hlt : i < n := by omega
    refine codeAny_builtin F.entry_set_update_loop ?_
    rw [Around.under_plainId F.plain_set_update_loop _]
    show wpAny _ A.in1 (pyNext (.ref I) >>= _) _ _ s
    refine wpAny_bind (W.item i s _ _ hlt hst fun v s' hP hst' hm => ?_)
    obtain ⟨p, hp, rfl⟩ := hval i v hP
    have hkp' := keepM hm hkp
    have sub : ∀ p ∈ L, p ∈ ks := fun p hp => List.mem_of_mem_take (g.sub p hp)
    have hS' : SetN P w s'.heap S L es ep t := hS.keep (fun o e => hm.heap S o hSw e) fun q hq => isN_keep (hk q (sub q hq)) hkp'
    have hx : IsN P w s'.heap p.2 p.1 := isN_keep (hk p (List.mem_of_getElem? hp)) hkp'
    show wpAny _ A.in1 (holding [Value.ref p.1] (setAdd S (.ref p.1)) >>= _) _ _ s'
    refine wpAny_bind (wpAny_holding ?_)
    unfold setAdd
    refine wpAny_holding ?_
    refine wpAny_bind ((nestedKind P w).pyHash hu hx ?_)
    refine add_n (s := { s' with toks := s'.toks + (nestedKind P w).draws p.2 }) hS' hx hu (by have := g.len; omega) fun b h' L' es' ep' t' hsb hS2 c1 c2 => ?_
    have g' : GotN ks (i + 1) L' := by
      rcases Classical.em (p.2 ∈ L.map (·.2)) with c | c
      · rw [c1 c]; exact g.same hp c
      · exact g.more hp (c2 c)
    have hkp2 : ∀ b o, h0.get? b = some o → h'.get? b = some o := fun b o e => (hsb.2 b (fun z => by rw [z, hS0] at e; cases e)).trans (hkp' b o e)
    refine wpAny_pure ⟨plainId_quiet F.plain_set_update_loop _, ih (i + 1) _ (by omega) hlt (W.frame _ s' _ _ hst' (Nat.le_add_right _ _) fun b hb o e => ?_) hkp2 ⟨L', es', ep', t', hS2, g'⟩ fun s'' L2 es2 ep2 t2 hm'' hS'' g'' hkp'' => ?_⟩
    · rw [hsb.2 b (fun h : b = S => hSf (by rw [← h]; exact hb))]; exact e
    · refine hR s'' L2 es2 ep2 t2 (Moved.trans W.gtrans ((hm.mono hsub).then_heap (Nat.le_add_right _ _) fun b o hb e => ?_) hm'') hS'' g'' hkp''
      rw [hsb.2 b (fun h : b = S => hb (by rw [h]; exact List.mem_cons_self))]; exact e

set_option maxHeartbeats 6400000 in
/-- set(xs) -/
theorem call_set_n {l : Addr} {items : Array Value} (ks : KeyL) {Q : Value → Shared → Prop} (hh : A.handled = none) (hl : s.heap.IsList l items) (hit : items.toList = ks.map fun p => Value.ref p.1)
    (hk : ∀ p ∈ ks, IsN P w s.heap p.2 p.1) (hfew : ks.length ≤ 6000) (hu : A.units + 20 < cLine)
    (h : ∀ (h' : Heap) (tk : Nat) L es ep t, SetN P w h' s.heap.objs.size L es ep t → GotN ks ks.length L → (∀ b o, s.heap.get? b = some o → h'.get? b = some o) → Q (.ref s.heap.objs.size) { s with heap := h', toks := tk }) :
    wpAny (model P w) A (call (.type "set") [.ref l]) Q E s := by
  have hisz : items.size = ks.length := by
    have q := congrArg List.length hit
    rwa [Array.length_toList, List.length_map] at q
  obtain ⟨c, tl, hmro⟩ := F.called_set.mro
  have hmade := F.called_set.made
  have hsub := F.called_set.sub
  refine wpAny_call (codeAny_of_tree ?_)
  show wpAny _ _ (callAny (.type "set") _) _ _ _
  refine wpAny_pure ⟨Code.quiet_builtin _ (by decide +kernel), codeAny_builtin F.entry_type_call ?_⟩
  rw [Around.under_plain (weight_type_call_type "set" [.ref l] []) rfl]
  have h1 := F.called_set.notType
  have h2 := F.called_set.canCreate
  have hct := F.typeCall_set_1 (.ref l)
  repeat (any_goals (first | assumption | wp_step))

  refine codeAny_mono (code_set_led1 (.ref l) (E := E) (Q₁ := fun obj s₁ => obj = .ref s.heap.objs.size ∧ s₁ = { s with heap := s.heap.push { cls := .type "set", dict := none, data := .set #[] 0 (.fresh 0 0 (!w.params.followText "set-order")) } }) ⟨rfl, rfl⟩) fun r s₁ hr => ?_
  cases r with
  | error e => exact hr
  | ok fl =>
    cases fl with
    | ret obj =>
      obtain ⟨rfl, rfl⟩ := hr
      have hS : (s.heap.push { cls := .type "set", dict := none, data := .set #[] 0 (.fresh 0 0 (!w.params.followText "set-order")) }).get? s.heap.objs.size = some { cls := .type "set", dict := none, data := .set #[] 0 (.fresh 0 0 (!w.params.followText "set-order")) } := Heap.get?_push_size _ rfl
      have hT : Shared.TypeIs { s with heap := s.heap.push { cls := .type "set", dict := none, data := .set #[] 0 (.fresh 0 0 (!w.params.followText "set-order")) } } (.ref s.heap.objs.size) "set" := ⟨_, hS, rfl⟩
      have hli := F.called_set.init.lookup
      have hbi := F.called_set.init.bind (.ref s.heap.objs.size)
      repeat (any_goals (first | assumption | wp_step))

      refine codeAny_mono (codeAny_call_builtin (R := wants (fun r s₂ => r = .none ∧ ∃ h' tk L es ep t, s₂ = { s with heap := h', toks := tk } ∧ SetN P w h' s.heap.objs.size L es ep t ∧ GotN ks ks.length L ∧
          (∀ b o, s.heap.get? b = some o → h'.get? b = some o)) E) F.called_set.init.plain F.entry_set_init (check_set_init_1 hT ?_)) fun r₂ s₂ hr₂ => ?_
      · obtain ⟨ol, hol, hcl, nl, hdl⟩ := hl
        obtain ⟨ocls, odict, odata, oslots⟩ := ol
        simp only at hcl hdl
        subst hcl; subst hdl
        have hol' : (s.heap.push { cls := .type "set", dict := none, data := .set #[] 0 (.fresh 0 0 (!w.params.followText "set-order")) }).get? l = some { cls := .type "list", dict := odict, data := .seq items nl, slots := oslots } := Heap.get?_push_of_some _ hol
        have hsls := F.sub_list_set
        have hslf := F.sub_list_frozenset
        have hne : (Value.type "list" == Value.type "dict") = false := by decide
        have hl1 : (s.heap.push { cls := .type "set", dict := none, data := .set #[] 0 (.fresh 0 0 (!w.params.followText "set-order")) }).IsList l items := ⟨_, hol', rfl, nl, rfl⟩
        unfold Builtin.«set.__init__» noKeywords Builtin.Frozenset.updateFrom
        generalize hPI : pyIter = PI
        wp_walk
        subst hPI

        refine wpAny_pyIter_list hl1 ?_
        refine wpAny_bind (wpAny_runValue ?_)
        have hlS : l < s.heap.objs.size := Heap.lt_size hol
        have hh3 : A.in1.in1.in1.handled = none := by simp [hh]
        have hz1 : (s.heap.push { cls := .type "set", dict := none, data := .set #[] 0 (.fresh 0 0 (!w.params.followText "set-order")) }).objs.size = s.heap.objs.size + 1 := Heap.size_push ..
        have hneI : l ≠ (s.heap.push { cls := .type "set", dict := none, data := .set #[] 0 (.fresh 0 0 (!w.params.followText "set-order")) }).objs.size := by
          rw [Heap.size_push]; exact Nat.ne_of_lt (Nat.lt_succ_of_lt hlS)
        have hSf : s.heap.objs.size ∉ [(s.heap.push { cls := .type "set", dict := none, data := .set #[] 0 (.fresh 0 0 (!w.params.followText "set-order")) }).objs.size, l] := by
          rw [Heap.size_push]; simp only [List.mem_cons, List.mem_singleton, List.not_mem_nil, or_false, not_or]
          exact ⟨Nat.ne_of_lt (Nat.lt_succ_self _), Nat.ne_of_gt hlS⟩
        have hval : ∀ (i : Nat) (v : Value), items[i]? = some v → ∃ p, ks[i]? = some p ∧ v = .ref p.1 := fun i v hv => by
          have q : items.toList[i]? = some v := by rw [Array.getElem?_toList]; exact hv
          rw [hit, List.getElem?_map] at q
          cases hq : ks[i]? with
          | none => rw [hq] at q; cases q
          | some p =>
            rw [hq] at q
            exact ⟨p, rfl, (Option.some.inj q).symm⟩
        have none_of : ∀ b, s.heap.objs.size ≤ b → s.heap.get? b = none := fun b hb => by
          cases q : s.heap.get? b with
          | none => rfl
          | some o => exact absurd (Nat.lt_of_lt_of_le (Heap.lt_size q) hb) (Nat.lt_irrefl _)
        have hu3 : (nestedKind P w).room A.in1.in1.in1 := by
          show _ + 8 < cLine
          simp only [Around.in1]
          omega
        refine set_update_n ((Walks.list hh3 _ l hneI items).toS) s.heap.objs.size
          hSf ks hisz hfew hval s.heap hk (none_of _ (Nat.le_refl _)) (fun b hb => none_of b (by
            rw [List.mem_singleton.mp hb, Heap.size_push]
            exact Nat.le_succ _)) hu3 (items.size - 0) 0 _ (by omega) (Nat.zero_le _)
          ⟨⟨_, Heap.get?_push_size _ rfl, rfl, rfl⟩, (hl1.push _)⟩ (fun b o e => Heap.get?_push_of_some _ (Heap.get?_push_of_some _ e)) ?hS0 ?hR
        case hS0 =>
          have hget : ((s.heap.push { cls := .type "set", dict := none, data := .set #[] 0 (.fresh 0 0 (!w.params.followText "set-order")) }).push { cls := .type "list_iterator", data := .fields #[.ref l, .int 0 0] }).get? s.heap.objs.size
              = some { cls := .type "set", dict := none, data := .set #[] 0 (.fresh 0 0 (!w.params.followText "set-order")) } := Heap.get?_push_of_some _ hS
          exact ⟨[], #[], 0, _, setN_fresh hget, GotN.zero ks⟩
        case hR =>
          intro s' L es ep t hm hS' g' hkp
          obtain ⟨h', g2, d', tk', os'⟩ := s'
          have eg : g2 = s.gens := hm.gens
          have ed : d' = s.drawn := hm.drawn
          have eo : os' = s.os := hm.os
          subst eg; subst ed; subst eo
          show wpAny _ _ _ _ _ _
          refine wpAny_pure ?_
          show wpAny _ _ (ret Value.none) _ _ _
          rw [hisz] at g'
          exact wpAny_pure ⟨rfl, h', tk', L, es, ep, t, rfl, hS', g', hkp⟩

      · cases r₂ with
        | error e => exact hr₂
        | ok fl₂ =>
          cases fl₂ with
          | ret r =>
            obtain ⟨rfl, h', tk, L, es, ep, t, rfl, hS', g', hk'⟩ := hr₂
            repeat (any_goals (first | assumption | wp_step))
            exact h _ _ _ _ _ _ hS' g' hk'
          | _ => exact hr₂.elim
    | _ => exact hr.elim
end
end PQ

/-! PQ.45: len(set(xs)), xs a list of tuples -/
namespace PQ
open PySem PySem.Spec PyProof.Rows L2

def nubN : List NestedKey → List NestedKey
  | [] => []
  | k :: ks => k :: (nubN ks).filter fun j => decide (j ≠ k)
theorem nubN_mem : ∀ {ks : List NestedKey} {j : NestedKey}, j ∈ nubN ks ↔ j ∈ ks
  | [], j => Iff.rfl
  | k :: ks, j => by
    rw [nubN, List.mem_cons, List.mem_cons, List.mem_filter, nubN_mem]
    by_cases h : j = k
    · simp [h]
    · simp [h]
theorem nubN_nodup : ∀ ks : List NestedKey, (nubN ks).Nodup
  | [] => List.nodup_nil
  | k :: ks => by
    rw [nubN, List.nodup_cons]
    exact ⟨fun h => by simp at h, (nubN_nodup ks).filter _⟩
theorem nubN_perm {ks L : List NestedKey} (hn : L.Nodup) (h : ∀ j, j ∈ L ↔ j ∈ ks) : L.Perm (nubN ks) :=
  (List.perm_ext_iff_of_nodup hn (nubN_nodup ks)).mpr fun j => by rw [h, nubN_mem]
theorem nubN_id : ∀ {ks : List NestedKey}, ks.Nodup → nubN ks = ks
  | [], _ => rfl
  | k :: ks, h => by
    obtain ⟨h1, h2⟩ := List.nodup_cons.mp h
    rw [nubN, nubN_id h2]
    congr 1
    refine List.filter_eq_self.mpr fun j hj => decide_eq_true fun e => h1 (e ▸ hj)
/-- the keys of tuples -/
def keysT (ds : List D) : List NestedKey := ds.filterMap keyD
def setOk (ds : List D) : Bool := ds.all tupKB && decide (ds.length ≤ 6000)
def dLenSet : D → R D
  | .list ds => guardR (setOk ds) (.int (nubN (keysT ds)).length)
  | _ => .stuck
def eLenSet (F : EV) : EV := fun ρ => F ρ >>= dLenSet
@[simp] theorem x_eLenSet (F : EV) (ρ : Rho) : eLenSet F ρ = (F ρ >>= dLenSet) := id rfl
section
variable {X : Cx} {pins : List (Addr × Obj)} {σ : St} {H Z : Hp} {s : Shared}
theorem keyL_of (I : Inv X pins σ H s) (sz : Same Z H) : ∀ {xs : List V} {ds : List D} {us : List Value}, RDs X.w X.K Z xs ds → Vals xs us → ds.all tupKB = true →
    ∃ ks : KeyL, us = ks.map (fun p => Value.ref p.1) ∧ xs = ks.map (fun p => V.ref p.1) ∧ (∀ p ∈ ks, IsN X.prog X.w s.heap p.2 p.1) ∧ keysT ds = ks.map (·.2) ∧ ∀ p ∈ ks, ∃ d ∈ ds, keyD d = some p.2 ∧ RD X.w X.K Z (.ref p.1) d
  | _, _, _, .nil, .nil, _ => ⟨[], rfl, rfl, fun _ h => (nomatch h), rfl, fun _ h => (nomatch h)⟩
  | _, _, _, .cons (v := v) (d := d) (ds := ds) h t, .cons r rr, hk => by
    rw [List.all_cons, Bool.and_eq_true] at hk
    obtain ⟨k, e1, e2⟩ := tupKB_key hk.1
    obtain ⟨ks, a1, a2, a3, a4, a5⟩ := keyL_of I sz t rr hk.2
    have nk := rd_nested I sz _ _ _ _ h r e1
    cases h with
    | tup h1 h2 =>
      rename_i a xs0 ds0
      cases r
      refine ⟨(a, .tup k) :: ks, by rw [List.map_cons, a1], by rw [List.map_cons, a2], fun p hp => ?_, ?_, fun p hp => ?_⟩
      · rcases List.mem_cons.mp hp with rfl | hp
        · exact ⟨nk, e2⟩
        · exact a3 p hp
      · unfold keysT at a4 ⊢
        rw [List.filterMap_cons_some e1, a4]; rfl
      · rcases List.mem_cons.mp hp with rfl | hp
        · exact ⟨_, List.mem_cons_self, e1, .tup h1 h2⟩
        · obtain ⟨d, q1, q2⟩ := a5 p hp
          exact ⟨d, List.mem_cons_of_mem _ q1, q2⟩
    | _ => cases hk.1
theorem got_perm {P : Program} {w : World} {h : Heap} {a : Addr} {ks L : KeyL} {es : Array (Int × Value)} {ep : Nat} {t : SetTable} (R : SetN P w h a L es ep t) (g : GotN ks ks.length L) : (L.map (·.2)).Perm (nubN (ks.map (·.2))) := by
  refine nubN_perm R.nd fun j => ⟨fun hj => ?_, fun hj => ?_⟩
  · obtain ⟨p, hp, rfl⟩ := List.mem_map.mp hj
    exact List.mem_map.mpr ⟨p, List.mem_of_mem_take (g.sub p hp), rfl⟩
  · obtain ⟨p, hp, rfl⟩ := List.mem_map.mp hj
    exact g.all p (by rw [List.take_length]; exact hp)
end
section
variable {X : Cx} {W : WX} {a : Expr} {F : EV}
theorem ev_lenSet {p p2 q pos : Pos} (hu : HasRoom X) (hc : X.calm = true) (hm : X.mg "len" = none) (hm2 : X.mg "set" = none) (ha : Ev X W a F) (hg : Gl X "len" := by rfl) (hg2 : Gl X "set" := by rfl)
    (na : starEach [a] X.env = (false, eval a X.env) :: starEach [] X.env := by rfl) : Ev X W (.Call (.Name "len" p) [.Call (.Name "set" p2) [a] [] q] [] pos) (eLenSet F) := by
  refine ⟨fun {Z0 H0 Z H σ ρ Q} r qq pins s I => ?_⟩
  have post : Post X W Z H σ (F ρ) (QV X Z H fun x H1 => ∃ Z1 d, F ρ = .ok d ∧ Ext Z H Z1 H1 ∧ RD X.w X.K Z1 x d) := by
    unfold eLenSet at qq
    cases e : F ρ with
    | ok d => exact fun v Z' H' x rd => ⟨Z', d, rfl, x, rd⟩
    | exc y => rw [e] at qq; exact qq
    | stuck => rw [e] at qq; exact qq
  refine Call_ (ld_blt I hg hm PySem.boot_len ?_)
  refine PyProof.Rows.callWith_builtin1 (PyProof.Rows.args_cons ?_ rfl) rfl rfl
  refine Call_ (ld_blt I hg2 hm2 PyProof.Rows.boot_set ?_)
  refine PyProof.Rows.callWith_type1 (PyProof.Rows.args_cons (thn (ha.go r post pins s I) fun v s1 ⟨x, H1, I1, r1, q1⟩ => PyProof.Rows.args_nil ?_) na) na rfl
  obtain ⟨Z1, d, e, x1, rd⟩ := q1
  unfold eLenSet at qq
  rw [e] at qq
  have qq : Post X W Z H σ (dLenSet d) (QV X Z H Q) := qq
  unfold dLenSet at qq
  cases d with
  | list ds =>
    obtain ⟨ok, qq⟩ := Post.guard qq
    unfold setOk at ok
    rw [Bool.and_eq_true] at ok
    have hlen := of_decide_eq_true ok.2
    cases rd with
    | lst h1 rds =>
      rename_i l xs
      obtain ⟨its, rv, pl, hz⟩ := I1.list (.inl (.inl (x1.zh _ _ h1)))
      obtain ⟨ks, a1, a2, a3, a4, a5⟩ := keyL_of I1 x1.zh rds rv ok.1
      cases r1
      have hl2 : ks.length = ds.length := by rw [← rds.length, a2, List.length_map]
      refine call_set_n ks (I1.ok.hd hc) pl.isList (by rw [← a1]) a3 (by omega) (by have hu : X.A.units + 100 < cLine := hu; omega) fun h' tk L es ep t R g kp => ?_
      refine PyProof.Rows.args_nil ?_
      obtain ⟨o, ho, hex, hd⟩ := R.ob
      have I2 : Inv X pins σ H1 { s1 with heap := h', toks := tk } := I1.kept kp
      have pm := (got_perm R g).length_eq
      rw [List.length_map, ← a4] at pm
      have fit : (es.size : Int) < 2 ^ 63 := by rw [rows_size R.rows]; have := R.few; omega
      refine call_len_set ho hex hd (SetN.fits (s := { s1 with heap := h' }) R) fit ⟨.int (nubN (keysT ds)).length, H1, I2.tok _, ⟨_, by rw [rows_size R.rows, pm]⟩, qq _ Z1 H1 x1 (.int _)⟩
  | _ => exact qq.elim
end
end PQ

/-! PQ.46: t * 1 of a tuple -/
namespace PQ
open PySem PySem.Spec PyProof.Rows L2
theorem tuple_mul1 (l : Addr) (items : Array Value) (n : Nat) (dd : Option Addr) (sl : Array (Option Value)) (x : Int) (u : Tok) (c0 : (decide (x < -(2 ^ 63)) || decide (x ≥ 2 ^ 63)) = false) (c1 : (items.isEmpty || x == 1) = true) :
    Meets (Builtin.«tuple.__mul__» ⟨[.ref l, .int x u], []⟩) (fun _ R s => s.heap.get? l = some { cls := .type "tuple", dict := dd, data := .seq items n, slots := sl } ∧ R (.ok (.ret (Value.ref l))) s) :=
  .of_wp fun prog w A R s h => by
    obtain ⟨hp, g, d, tk, os⟩ := s
    obtain ⟨hl, h⟩ := h
    have f1 := AutoSeq1.idx_int
    wp_walk using wpAny_loadPart' hl
    repeat (first
      | (refine wpAny_ite_false (decide_eq_false (by rw [c0]; exact Bool.false_ne_true)) ?_; wp_walk using wpAny_loadPart' hl)
      | (refine wpAny_ite_true (decide_eq_true c1) ?_; wp_walk using wpAny_loadPart' hl))
    exact ⟨_, rfl, h⟩
def rRep1 (K : PySem.W.Frag) : R2 := fun x y H Q => ∃ l xs, x = .ref l ∧ y = .int 1 ∧ SqT K H l xs ∧ Q (.ref l) H
section
variable {X : Cx}
theorem op_rep1 : OpR X (binaryOp .Mult) (rRep1 X.K) := by
  intro pins s σ H x y v u Q I rx ry h
  obtain ⟨l, xs, rfl, rfl, hT, q⟩ := h
  cases rx
  obtain ⟨t, rfl⟩ := ry
  obtain ⟨its, r, ⟨⟨cls, dd, data, sl⟩, ho, hc, n, hd⟩, hs⟩ := I.tuple hT
  simp only at hc hd
  subst hc hd
  refine wpAny_binaryOp_repeat_ref (T := "tuple") (U := "int") (by decide) ⟨_, ho, rfl⟩ (fun s' => typeIs_int s' 1 t) noFill_tuple_mul F.fills_int_mul F.slot_int_rmul repeat_tuple F.slot_int_index.lookup
    (call_meets F.slot_int_rmul (typeIs_int s 1 t) F.entry_int_rmul (F.args_int_rmul_2 _ _) (int_rmul_tuple 1 t l its.toArray n dd sl)
      ⟨ho, rfl, ⟨_, ho, rfl⟩, call_meets F.slot_tuple_mul ⟨_, ho, rfl⟩ F.entry_tuple_mul (F.args_tuple_mul_2 _ _) (tuple_mul1 l its.toArray n dd sl 1 t (by decide) (by simp)) ⟨ho, ?_⟩⟩)
  exact ⟨.ref l, H, I, rfl, q⟩
end
def dMulT : D → D → R D
  | .tuple xs, .int 1 => .ok (.tuple xs)
  | x, y => dMul x y
theorem cl_mulT (x y : D) : (dMulT x y).clean := by
  unfold dMulT
  split
  · trivial
  · exact cl_mul _ _
@[simp] theorem x_dMulT1 (xs : List D) : dMulT (.tuple xs) (.int 1) = .ok (.tuple xs) := id rfl
theorem x_dMulT (xs : List D) (k : Int) (h : k ≠ 1) : dMulT (.tuple xs) (.int k) = dMul (.tuple xs) (.int k) := by
  unfold dMulT
  split
  · rename_i e1 e2; cases e2; exact absurd rfl h
  · rfl
section
variable {X : Cx} {W : WX} {a b : Expr} {F G : EV} {pos : Pos}
theorem od_mulT : OpD X (fun x y H Q => rMulAll X.K x y H Q ∨ rRep1 X.K x y H Q) dMulT := by
  intro Z H x y dx dy Q s rx ry h
  unfold dMulT at h
  split at h
  · cases ry
    obtain ⟨p, xs, rfl, h1, r1⟩ := rd_tup rx
    exact .inr ⟨p, xs, rfl, rfl, SqT.mono s h1, h _ _ _ (Ext.refl s) (.tup h1 r1)⟩
  · exact .inl (od_mul Z H x y _ _ Q s rx ry h)
theorem ev_mulT (ha : Ev X W a F) (hb : Ev X W b G) : Ev X W (.BinOp a .Mult b pos) (e2 dMulT F G) := ev_2 (pe_op (op_mulAll.or op_rep1)) od_mulT cl_mulT ha hb
end
end PQ

/-! PQ.47: sorted(set(xs)), xs a list of tuples -/
namespace PQ
open PySem PySem.Spec PyProof.Rows L2
open PySem.W (dataLt dataLe alike alikeAll keyToks toks_eqv AllAlike Sortable EachIs lex_pre)

/-! ### keys and their data -/
mutual
theorem data_eqv : ∀ a b : NestedKey, PyData.eqv a.data b.data = true → a = b
  | .none, .none, _ => rfl
  | .num a, .num b, h => by
    have : (a == b) = true := h
    rw [beq_iff_eq.mp this]
  | .text a, .text b, h => by
    have : (a == b) = true := h
    rw [beq_iff_eq.mp this]
  | .tup a, .tup b, h => by
    have : PyData.eqvAll (NestedKey.datas a) (NestedKey.datas b) = true := h
    rw [datas_eqv a b this]
  | .none, .num _, h | .none, .text _, h | .none, .tup _, h => by cases h
  | .num _, .none, h | .num _, .text _, h | .num _, .tup _, h => by cases h
  | .text _, .none, h | .text _, .num _, h | .text _, .tup _, h => by cases h
  | .tup _, .none, h | .tup _, .num _, h | .tup _, .text _, h => by cases h
theorem datas_eqv : ∀ a b : List NestedKey, PyData.eqvAll (NestedKey.datas a) (NestedKey.datas b) = true → a = b
  | [], [], _ => rfl
  | x :: xs, y :: ys, h => by
    have h : (PyData.eqv x.data y.data && PyData.eqvAll (NestedKey.datas xs) (NestedKey.datas ys)) = true := h
    rw [Bool.and_eq_true] at h
    rw [data_eqv x y h.1, datas_eqv xs ys h.2]
  | [], _ :: _, h => by cases h
  | _ :: _, [], h => by cases h
end
mutual
def noB : D → Bool
  | .none => true
  | .int _ => true
  | .str _ => true
  | .tuple ds => noBs ds
  | _ => false
def noBs : List D → Bool
  | [] => true
  | d :: ds => noB d && noBs ds
end
mutual
theorem key_back : ∀ (d : D) (k : NestedKey), noB d = true → keyD d = some k → k.data = d
  | .none, k, _, e => by simp [keyD] at e; subst e; rfl
  | .int i, k, _, e => by simp [keyD] at e; subst e; rfl
  | .str x, k, _, e => by simp [keyD] at e; subst e; rfl
  | .tuple ds, k, h, e => by
    rw [keyD, Option.map_eq_some_iff] at e
    obtain ⟨ks, hk, rfl⟩ := e
    have h : noBs ds = true := by simpa [noB] using h
    show PyData.tuple (NestedKey.datas ks) = _
    rw [keys_back ds ks h hk]
  | .bool _, k, h, _ => by simp [noB] at h
  | .list _, k, h, _ => by simp [noB] at h
  | .dict _, k, h, _ => by simp [noB] at h
theorem keys_back : ∀ (ds : List D) (ks : List NestedKey), noBs ds = true → keyDs ds = some ks → NestedKey.datas ks = ds
  | [], ks, _, e => by simp [keyDs] at e; subst e; rfl
  | d :: ds, ks, h, e => by
    simp only [keyDs, Option.bind_eq_some_iff, Option.map_eq_some_iff] at e
    obtain ⟨k, h1, ks', h2, rfl⟩ := e
    have h : noB d = true ∧ noBs ds = true := by simpa [noBs] using h
    show k.data :: NestedKey.datas ks' = _
    rw [key_back d k h.1 h1, keys_back ds ks' h.2 h2]
end
/-! ### the order of data decides -/
theorem le_trans' (a b c : D) (h1 : dataLe false id a b = true) (h2 : dataLe false id b c = true) : dataLe false id a c = true := by
  have h1 : (!dataLt b a) = true := h1
  have h2 : (!dataLt c b) = true := h2
  show (!dataLt c a) = true
  rw [Bool.not_eq_true'] at h1 h2 ⊢
  cases e : dataLt c a with
  | false => rfl
  | true =>
    rcases PyProof.Rows.lex_negTrans (O := itemOrd) _ (keyToks b) _ e with q | q
    · exact absurd q (by rw [show PyProof.Rows.lexLt itemOrd (keyToks c) (keyToks b) = false from h2]; decide)
    · exact absurd q (by rw [show PyProof.Rows.lexLt itemOrd (keyToks b) (keyToks a) = false from h1]; decide)
theorem le_total' (a b : D) : (dataLe false id a b || dataLe false id b a) = true := by
  show (!dataLt b a || !dataLt a b) = true
  cases e1 : dataLt b a with
  | false => rfl
  | true =>
    cases e2 : dataLt a b with
    | false => rfl
    | true =>
      have := PyProof.Rows.lex_trans (O := itemOrd) _ _ _ e1 e2
      have z := PyProof.Rows.lex_irrefl (O := itemOrd) (keyToks b)
      rw [this] at z; cases z
theorem le_anti (a b : NestedKey) (hal : alike a.data b.data = true) (h1 : dataLe false id a.data b.data = true) (h2 : dataLe false id b.data a.data = true) : a = b := by
  have h1 : (!dataLt b.data a.data) = true := h1
  have h2 : (!dataLt a.data b.data) = true := h2
  rw [Bool.not_eq_true'] at h1 h2
  have e := PyProof.Rows.lex_total (O := itemOrd) _ _ h1 h2
  cases q : PyData.eqv a.data b.data with
  | true => exact data_eqv a b q
  | false =>
    exfalso
    have z := (toks_eqv a.data b.data hal).2 q [] [.inl 5]
    rw [show PyProof.Rows.lexLt itemOrd (keyToks a.data) (keyToks b.data) = false from h2, e, lex_pre] at z
    cases z
def nubD (ds : List D) : List D := (nubN (keysT ds)).map NestedKey.data
/-- two rows of keys with the same members are sorted alike -/
theorem sort_perm {ks L : List NestedKey} (pm : L.Perm ks) (hal : AllAlike (ks.map NestedKey.data)) : sortL (L.map NestedKey.data) = sortL (ks.map NestedKey.data) := by
  unfold sortL
  have p1 : (L.map NestedKey.data).mergeSort (dataLe false id) |>.Perm ((ks.map NestedKey.data).mergeSort (dataLe false id)) :=
    (List.mergeSort_perm _ _).trans ((pm.map _).trans (List.mergeSort_perm _ _).symm)
  refine List.Perm.eq_of_pairwise (le := fun a b => dataLe false id a b = true) (fun a b ha hb h1 h2 => ?_) (List.pairwise_mergeSort le_trans' le_total' _) (List.pairwise_mergeSort le_trans' le_total' _) p1
  have ha := (List.mergeSort_perm _ _).mem_iff.mp ha
  have hb := (List.mergeSort_perm _ _).mem_iff.mp hb
  obtain ⟨x, hx, rfl⟩ := List.mem_map.mp ha
  obtain ⟨y, hy, rfl⟩ := List.mem_map.mp hb
  have : alike x.data y.data = true := hal _ (List.mem_map_of_mem (pm.mem_iff.mp hx)) _ (List.mem_map_of_mem hy)
  rw [le_anti x y this h1 h2]
/-! ### the rule -/
def dSortSet : D → R D
  | .list ds => guardR (setOk ds && noBs ds && decide (ds.length ≤ 4000) && sortOk (nubD ds)) (.list (sortL (nubD ds)))
  | _ => .stuck
def eSortSet (F : EV) : EV := fun ρ => F ρ >>= dSortSet
@[simp] theorem x_eSortSet (F : EV) (ρ : Rho) : eSortSet F ρ = (F ρ >>= dSortSet) := id rfl
open PySem.W (SortsAt copyHeap sortingHeap sortVals dataKind)
section
variable {prog : Program} {w : World} {A : Around} {E : Value → Shared → Prop} {s : Shared}
/-- sorted(a set) -/
theorem sorted_setN {a : Addr} {L : KeyL} {es : Array (Int × Value)} {ep : Nat} {t : SetTable} {Q : Value → Shared → Prop} (R : SetN prog w s.heap a L es ep t) (hh : A.handled = none) (hsz : L.length ≤ 4000)
    (hR : ∀ p ∈ L, ∃ as, Reads s.heap (.ref p.1) p.2.data as) (hal : AllAlike (L.map fun p => p.2.data)) (hk : Sortable (L.map fun p => p.2.data) ∨ ((L.map fun p => p.2.data).length ≤ 1 ∧ ∀ d ∈ L.map fun p => p.2.data, d ≠ .none))
    (hu : ∀ p ∈ L, A.units + 2 + p.2.data.depth < cLine) {RR : Value → D → Prop} (hRR : ∀ p ∈ L, RR (.ref p.1) p.2.data)
    (hQ : ∀ s' p (out : List Value) (c : Nat) (L' : KeyL), (∀ b o, s.heap.get? b = some o → s'.heap.get? b = some o) → s'.gens = s.gens → s'.os = s.os → s.heap.objs.size ≤ p →
      s'.heap.get? p = some (seqObj "list" out.toArray c) → L'.Perm L → out.length = L.length → EachIs RR out (sortL (L'.map fun q => q.2.data)) → Q (.ref p) s') :
    wpAny (model prog w) A (call (.builtin "sorted") [.ref a]) Q E s := by
  obtain ⟨o, ho, hex, hd⟩ := R.ob
  have hsz2 := rows_size R.rows
  refine Calls.call_function_entry kind_sorted plain_sorted entry_sorted (args_sorted1 _) ?_
  unfold Builtin.«sorted»
  refine wpAny_bind (m := checkCount "sorted" 1 1 _) (wpAny_pure ?_)
  refine wpAny_bind (collect_set (A := A.in1) hh ⟨o, ho, hex.1, hd⟩ (SetN.fits (s := s) R) (by unfold scanBound; omega) R.tab.ris R.led fun s1 vs k1 hz g1 o1 pm => ?_)
  have hes : es.toList.map (·.2) = L.map fun q => Value.ref q.1 := by
    rw [R.rows]
    unfold rowsN
    rw [List.map_map]; rfl
  rw [hes] at pm
  obtain ⟨L1, pL, e1⟩ := L2.perm_lift (fun q : Addr × NestedKey => Value.ref q.1) pm L rfl
  have mem : ∀ q ∈ L1, q ∈ L := fun q hq => pL.mem_iff.mp hq
  have hvl : vs.length = L.length := by rw [pm.length_eq, List.length_map]
  refine wpAny_bind (wpAny_newList ?_ (by rw [sizeLine_eq]; omega))
  have hoL : (s1.heap.push (seqObj "list" vs.toArray 0)).get? s1.heap.objs.size = some (seqObj "list" vs.toArray 0) := Heap.get?_push_size _ rfl
  have keep : ∀ b u, s.heap.get? b = some u → (sortingHeap (s1.heap.push (seqObj "list" vs.toArray 0)) s1.heap.objs.size vs).get? b = some u := fun b u e => by
    have q := k1 b u e
    exact PySem.W.sortingHeap_old (Nat.ne_of_lt (Heap.lt_size q)) (Heap.get?_push_of_some _ q)
  have each : ∀ {T : Value → D → Prop} (L1 : KeyL), (∀ q ∈ L1, T (.ref q.1) q.2.data) → EachIs T (L1.map fun q => Value.ref q.1) (L1.map fun q => q.2.data) := by
    intro T L1
    induction L1 with
    | nil => intro _; exact .nil
    | cons q L1 ih => intro hT; exact .cons (hT q List.mem_cons_self) (ih fun r hr => hT r (List.mem_cons_of_mem _ hr))
  have er : EachIs (fun v d => ∃ as, Reads (sortingHeap (s1.heap.push (seqObj "list" vs.toArray 0)) s1.heap.objs.size vs) v d as) vs (L1.map fun q => q.2.data) := by
    have := each (T := fun v d => ∃ as, Reads (sortingHeap (s1.heap.push (seqObj "list" vs.toArray 0)) s1.heap.objs.size vs) v d as) L1 fun q hq => by
      obtain ⟨as, r⟩ := hR q (mem q hq)
      exact ⟨as, Reads.keeps keep r⟩
    rwa [e1] at this
  have eR : EachIs RR vs (L1.map fun q => q.2.data) := by
    rw [← e1]
    exact each L1 fun q hq => hRR q (mem q hq)
  have pd : (L1.map fun q => q.2.data).Perm (L.map fun q => q.2.data) := pL.map _
  have hal1 : AllAlike (L1.map fun q => q.2.data) := fun d hd d' hd' => hal d (pd.mem_iff.mp hd) d' (pd.mem_iff.mp hd')
  have hk1 : Sortable (L1.map fun q => q.2.data) ∨ ((L1.map fun q => q.2.data).length ≤ 1 ∧ ∀ d ∈ L1.map fun q => q.2.data, d ≠ .none) := by
    rcases hk with hk | ⟨h1, h2⟩
    · refine .inl ?_
      rcases hk with hk | hk
      · exact .inl fun d hd => hk d (pd.mem_iff.mp hd)
      · exact .inr fun d hd => hk d (pd.mem_iff.mp hd)
    · exact .inr ⟨by rw [pd.length_eq]; exact h1, fun d hd => h2 d (pd.mem_iff.mp hd)⟩
  have S := SortsAt.keepU (prog := prog) (w := w) (A := A.in1.in1) (s := { s1 with heap := sortingHeap (s1.heap.push (seqObj "list" vs.toArray 0)) s1.heap.objs.size vs }) er hal1 hk1 (fun d hd => by
    obtain ⟨q, hq, rfl⟩ := List.mem_map.mp hd
    have := hu q (mem q hq)
    simp only [Around.in1]
    omega)
  refine wpAny_bind (wpAny_holding (wpAny_call_entry_kw slot_list_sort ⟨_, hoL, rfl⟩ entry_list_sort ?body (args_list_sort _)))
  case body =>
    show wpAny (model prog w) A.in1.in1 (Builtin.«list.sort» ⟨[.ref s1.heap.objs.size], []⟩) _ _ _
    refine PySem.W.list_sort_vals (s := { s1 with heap := s1.heap.push (seqObj "list" vs.toArray 0) }) hoL S (by rw [sizeLine_eq]; omega) ⟨_, rfl, wpAny_pure ⟨_, rfl, ?_⟩⟩
    have hm : (L1.map fun q => q.2.data).map id = L1.map fun q => q.2.data := List.map_id _
    have out := PySem.W.sortVals_data (h' := sortingHeap (s1.heap.push (seqObj "list" vs.toArray 0)) s1.heap.objs.size vs) (enc := id) false eR er (by rw [hm]; exact hal1)
    rw [hm] at out
    have ol := PySem.W.sortVals_length (κ := dataKind (sortingHeap (s1.heap.push (seqObj "list" vs.toArray 0)) s1.heap.objs.size vs) (L1.map fun q => q.2.data)) (vs := vs) false rfl
    generalize sortVals (dataKind (sortingHeap (s1.heap.push (seqObj "list" vs.toArray 0)) s1.heap.objs.size vs) (L1.map fun q => q.2.data)) false vs vs = ov at out ol ⊢
    obtain ⟨c, hc⟩ := PyProof.Rows.sortedHeap_at (vs := vs) (out := ov.toArray) hoL
    refine hQ _ s1.heap.objs.size ov c L1 (fun b u e => ?_) g1 o1 hz hc pL (by rw [ol, hvl]) out
    have q := k1 b u e
    have hlt := Heap.lt_size q
    show (sortedHeap (s1.heap.push (seqObj "list" vs.toArray 0)) s1.heap.objs.size vs ov.toArray).get? b = some u
    rw [PyProof.Rows.sortedHeap_old (Nat.ne_of_lt hlt) (by rw [size_push']; exact Nat.lt_succ_of_lt hlt)]
    exact Heap.get?_push_of_some _ q
end
end PQ

/-! PQ.48: sorted(set(xs)): the rule -/
namespace PQ
open PySem PySem.Spec PyProof.Rows L2
open PySem.W (AllAlike Sortable EachIs)
theorem noBs_mem : ∀ {ds : List D} {d : D}, noBs ds = true → d ∈ ds → noB d = true
  | e :: ds, d, h, hd => by
    have h : noB e = true ∧ noBs ds = true := by simpa [noBs] using h
    rcases List.mem_cons.mp hd with rfl | hd
    · exact h.1
    · exact noBs_mem h.2 hd
section
variable {X : Cx} {W : WX} {a : Expr} {F : EV}
theorem eo_sortSet {p p2 q pos : Pos} (hu : HasRoom X) (hc : X.calm = true) (hm : X.mg "sorted" = none) (hm2 : X.mg "set" = none) (ha : Ev X W a F) (hg : Gl X "sorted" := by rfl) (hg2 : Gl X "set" := by rfl)
    (na : starEach [a] X.env = (false, eval a X.env) :: starEach [] X.env := by rfl) : Eo X W (.Call (.Name "sorted" p) [.Call (.Name "set" p2) [a] [] q] [] pos) (eSortSet F) := by
  refine ⟨fun {Z0 H0 Z H σ ρ Q} r qq pins s I => ?_⟩
  have post : Post X W Z H σ (F ρ) (QV X Z H fun x H1 => ∃ Z1 d, F ρ = .ok d ∧ Ext Z H Z1 H1 ∧ RD X.w X.K Z1 x d) := by
    unfold eSortSet at qq
    cases e : F ρ with
    | ok d => exact fun v Z' H' x rd => ⟨Z', d, rfl, x, rd⟩
    | exc y => rw [e] at qq; exact qq
    | stuck => rw [e] at qq; exact qq
  refine Call_ (ld_blt I hg hm boot_sorted ?_)
  refine PyProof.Rows.callWith_builtin1 (PyProof.Rows.args_cons ?_ rfl) rfl rfl
  refine Call_ (ld_blt I hg2 hm2 PyProof.Rows.boot_set ?_)
  refine PyProof.Rows.callWith_type1 (PyProof.Rows.args_cons (thn (ha.go r post pins s I) fun v s1 ⟨x, H1, I1, r1, q1⟩ => PyProof.Rows.args_nil ?_) na) na rfl
  obtain ⟨Z1, d, e, x1, rd⟩ := q1
  unfold eSortSet at qq
  rw [e] at qq
  have qq : Post X W Z H σ (dSortSet d) (fun d => ∀ a Z' H', Ext Z H Z' H' → H a = none → Own X.w X.K Z' H' a d → Q (.ref a) H') := qq
  unfold dSortSet at qq
  cases d with
  | list ds =>
    obtain ⟨ok, qq⟩ := Post.guard qq
    simp only [Bool.and_eq_true, decide_eq_true_eq] at ok
    obtain ⟨⟨⟨ok1, ok2⟩, ok3⟩, ok4⟩ := ok
    unfold setOk at ok1
    rw [Bool.and_eq_true] at ok1
    cases rd with
    | lst h1 rds =>
      rename_i l xs
      obtain ⟨its, rv, pl, hz⟩ := I1.list (.inl (.inl (x1.zh _ _ h1)))
      obtain ⟨ks, a1, a2, a3, a4, a5⟩ := keyL_of I1 x1.zh rds rv ok1.1
      cases r1
      have hl2 : ks.length = ds.length := by rw [← rds.length, a2, List.length_map]
      refine call_set_n ks (I1.ok.hd hc) pl.isList (by rw [← a1]) a3 (by omega) (by have hu : X.A.units + 100 < cLine := hu; omega) fun h' tk L es ep t R g kp => ?_
      refine PyProof.Rows.args_nil ?_
      have I2 : Inv X pins σ H1 { s1 with heap := h', toks := tk } := I1.kept kp
      have pm := got_perm R g
      rw [← a4] at pm
      -- the members as data
      have rd_of : ∀ p ∈ L, RD X.w X.K Z1 (.ref p.1) p.2.data := fun p hp => by
        obtain ⟨d, q1, q2, q3⟩ := a5 p (List.mem_of_mem_take (g.sub p hp))
        rw [key_back d p.2 (noBs_mem ok2 q1) q2]
        exact q3
      have hL : (L.map fun p => p.2.data) = (L.map (·.2)).map NestedKey.data := by rw [List.map_map]; rfl
      have pd : (L.map fun p => p.2.data).Perm (nubD ds) := by rw [hL]; exact pm.map _
      obtain ⟨k1, k2, k3, k4, k5⟩ := sortOk_of ok4
      have hal : AllAlike (L.map fun p => p.2.data) := fun d hd d' hd' => k3 d (pd.mem_iff.mp hd) d' (pd.mem_iff.mp hd')
      have hk : Sortable (L.map fun p => p.2.data) ∨ ((L.map fun p => p.2.data).length ≤ 1 ∧ ∀ d ∈ L.map fun p => p.2.data, d ≠ .none) := by
        rcases k4 with hk | ⟨h1, h2⟩
        · refine .inl ?_
          rcases hk with hk | hk
          · exact .inl fun d hd => hk d (pd.mem_iff.mp hd)
          · exact .inr fun d hd => hk d (pd.mem_iff.mp hd)
        · exact .inr ⟨by rw [pd.length_eq]; exact h1, fun d hd => h2 d (pd.mem_iff.mp hd)⟩
      have mem : ∀ p ∈ L, p.2.data ∈ nubD ds := fun p hp => pd.mem_iff.mp (List.mem_map_of_mem (f := fun p : Addr × NestedKey => p.2.data) hp)
      have plain_of : ∀ {es : List D} {d : D}, PyData.plainAll es = true → d ∈ es → d.plain = true := by
        intro es d h hd
        induction es with
        | nil => cases hd
        | cons x es ih =>
          have h : x.plain = true ∧ PyData.plainAll es = true := by simpa [PyData.plainAll] using h
          rcases List.mem_cons.mp hd with rfl | hd
          · exact h.1
          · exact ih h.2 hd
      have hlen : L.length ≤ 4000 := by
        have := g.len
        omega
      refine sorted_setN (s := { s1 with heap := h', toks := tk }) R (I1.ok.hd hc) hlen (fun p hp => ?_) hal hk (fun p hp => ?_) (RR := fun u d => ∃ x, RelV x u ∧ RD X.w X.K Z1 x d) (fun p hp => ⟨.ref p.1, rfl, rd_of p hp⟩) fun s' p out c L' kk hg' ho' hp hc' pL ol eo => ?_
      · have hd := plain_of k2 (mem p hp)
        exact Dp.reads I2 _ _ _ (((rd_of p hp).mono x1.zh).dp (plain_noDict _ hd)) rfl
      · have := depth_mem (mem p hp)
        have hu : X.A.units + 100 < cLine := hu
        omega
      · obtain ⟨ys, r2, rd2⟩ := rd_each eo
        have es2 : sortL (L'.map fun q => q.2.data) = sortL (nubD ds) := by
          have e3 : (L'.map fun q => q.2.data) = (L'.map (·.2)).map NestedKey.data := by rw [List.map_map]; rfl
          rw [e3]
          exact sort_perm ((pL.map (·.2)).trans pm) k3
        rw [es2] at rd2
        have hn : H1 p = none := I2.hok.fresh hp
        have hyl : ys.length ≤ sizeLine := by rw [r2.length, ol, sizeLine_eq]; omega
        have J : Inv X pins σ (upd H1 p (.lst ys)) { ({ s1 with heap := h', toks := tk } : Shared) with heap := s'.heap, gens := s'.gens, drawn := s'.drawn, toks := s'.toks } :=
          I2.call (ch := []) (Un.laid kk hp hn) (I2.hok.laid kk hp ⟨hyl, out, c, r2, hc'⟩) (by rw [hg']; exact I2.bare) (fun _ z => nomatch z)
        have e' : s' = { ({ s1 with heap := h', toks := tk } : Shared) with heap := s'.heap, gens := s'.gens, drawn := s'.drawn, toks := s'.toks } := by
          cases s'
          cases s1
          cases ho'
          rfl
        rw [e']
        have hH : H p = none := by
          cases z : H p with
          | none => rfl
          | some o => have := x1.hh _ _ z; rw [hn] at this; cases this
        exact ⟨.ref p, _, J, rfl, qq p Z1 _ (x1.trans (Ext.newO x1.zh hn)) hH (.lst (zfree x1.zh hn) upd_same rd2)⟩
  | _ => exact qq.elim
end
end PQ

namespace PQ
open PySem PySem.Spec PyProof.Rows L2
def topS (i : Nat) : Stmt := PySem.Challenge.pw_marblewright_k30_whole_built_trees.main.body.getD i (.Pass ⟨0, 0, 0, 0⟩)
@[simp] abbrev c_LETTERS : D := .str "abcdefghijklmnopqrstuvwxyz"
@[simp] abbrev c_END : D := .str "end"
@[simp] abbrev c_SWITCH : D := .str "switch"
@[simp] abbrev c_SIDES : D := .tuple [.str "L", .str "R"]
@[simp] abbrev c_MOST_LETTERS : D := .int 8
@[simp] abbrev c_MOST_DEEP : D := .int 8
@[simp] abbrev c_MOST_THINGS : D := .int 200
@[simp] abbrev c_MOST_MARBLES : D := .int 1000
@[simp] abbrev c_MOST_NAMES : D := .int 64
structure Txt (P : Program) (w : World) (K : PySem.W.Frag) (mg : Str → Option Value) where
  f_is_whole : Addr
  d_is_whole : FuncData
  m_is_whole : mg "is_whole" = some (.ref f_is_whole)
  F_is_whole : Fun K "is_whole" "is_whole" (topS 6) f_is_whole d_is_whole
  b_is_whole : Binds K d_is_whole ["value", "least", "most"] []
  f_is_name : Addr
  d_is_name : FuncData
  m_is_name : mg "is_name" = some (.ref f_is_name)
  F_is_name : Fun K "is_name" "is_name" (topS 16) f_is_name d_is_name
  b_is_name : Binds K d_is_name ["value"] []
  f__is_within : Addr
  d__is_within : FuncData
  m__is_within : mg "_is_within" = some (.ref f__is_within)
  F__is_within : Fun K "_is_within" "_is_within" (topS 17) f__is_within d__is_within
  b__is_within : Binds K d__is_within ["value", "room"] []
  f_things_in : Addr
  d_things_in : FuncData
  m_things_in : mg "things_in" = some (.ref f_things_in)
  F_things_in : Fun K "things_in" "things_in" (topS 18) f_things_in d_things_in
  b_things_in : Binds K d_things_in ["tree"] []
  f_is_tree : Addr
  d_is_tree : FuncData
  m_is_tree : mg "is_tree" = some (.ref f_is_tree)
  F_is_tree : Fun K "is_tree" "is_tree" (topS 19) f_is_tree d_is_tree
  b_is_tree : Binds K d_is_tree ["value"] []
  f_check_tree : Addr
  d_check_tree : FuncData
  m_check_tree : mg "check_tree" = some (.ref f_check_tree)
  F_check_tree : Fun K "check_tree" "check_tree" (topS 20) f_check_tree d_check_tree
  b_check_tree : Binds K d_check_tree ["tree"] []
  f__drop : Addr
  d__drop : FuncData
  m__drop : mg "_drop" = some (.ref f__drop)
  F__drop : Fun K "_drop" "_drop" (topS 21) f__drop d__drop
  b__drop : Binds K d__drop ["tree"] []
  f_tree_ends : Addr
  d_tree_ends : FuncData
  m_tree_ends : mg "tree_ends" = some (.ref f_tree_ends)
  F_tree_ends : Fun K "tree_ends" "tree_ends" (topS 22) f_tree_ends d_tree_ends
  b_tree_ends : Binds K d_tree_ends ["tree", "many"] []
  f__size : Addr
  d__size : FuncData
  m__size : mg "_size" = some (.ref f__size)
  F__size : Fun K "_size" "_size" (topS 23) f__size d__size
  b__size : Binds K d__size ["tree"] []
  f_tree_size : Addr
  d_tree_size : FuncData
  m_tree_size : mg "tree_size" = some (.ref f_tree_size)
  F_tree_size : Fun K "tree_size" "tree_size" (topS 24) f_tree_size d_tree_size
  b_tree_size : Binds K d_tree_size ["tree"] []
  f_deep_in : Addr
  d_deep_in : FuncData
  m_deep_in : mg "deep_in" = some (.ref f_deep_in)
  F_deep_in : Fun K "deep_in" "deep_in" (topS 25) f_deep_in d_deep_in
  b_deep_in : Binds K d_deep_in ["tree"] []
  f_again_in : Addr
  d_again_in : FuncData
  m_again_in : mg "again_in" = some (.ref f_again_in)
  F_again_in : Fun K "again_in" "again_in" (topS 26) f_again_in d_again_in
  b_again_in : Binds K d_again_in ["tree"] []
  f_tree_again : Addr
  d_tree_again : FuncData
  m_tree_again : mg "tree_again" = some (.ref f_tree_again)
  F_tree_again : Fun K "tree_again" "tree_again" (topS 27) f_tree_again d_tree_again
  b_tree_again : Binds K d_tree_again ["tree"] []
  f__check_names : Addr
  d__check_names : FuncData
  m__check_names : mg "_check_names" = some (.ref f__check_names)
  F__check_names : Fun K "_check_names" "_check_names" (topS 30) f__check_names d__check_names
  b__check_names : Binds K d__check_names ["names"] []
  f__built : Addr
  d__built : FuncData
  m__built : mg "_built" = some (.ref f__built)
  F__built : Fun K "_built" "_built" (topS 31) f__built d__built
  b__built : Binds K d__built ["names"] []
  f_tree_for : Addr
  d_tree_for : FuncData
  m_tree_for : mg "tree_for" = some (.ref f_tree_for)
  F_tree_for : Fun K "tree_for" "tree_for" (topS 32) f_tree_for d_tree_for
  b_tree_for : Binds K d_tree_for ["names"] []
  f__needed : Addr
  d__needed : FuncData
  m__needed : mg "_needed" = some (.ref f__needed)
  F__needed : Fun K "_needed" "_needed" (topS 33) f__needed d__needed
  b__needed : Binds K d__needed ["names"] []
  f_switches_for : Addr
  d_switches_for : FuncData
  m_switches_for : mg "switches_for" = some (.ref f_switches_for)
  F_switches_for : Fun K "switches_for" "switches_for" (topS 34) f_switches_for d_switches_for
  b_switches_for : Binds K d_switches_for ["names"] []
  f__shortest : Addr
  d__shortest : FuncData
  m__shortest : mg "_shortest" = some (.ref f__shortest)
  F__shortest : Fun K "_shortest" "_shortest" (topS 35) f__shortest d__shortest
  b__shortest : Binds K d__shortest ["names"] []
  f_tree_for_ever : Addr
  d_tree_for_ever : FuncData
  m_tree_for_ever : mg "tree_for_ever" = some (.ref f_tree_for_ever)
  F_tree_for_ever : Fun K "tree_for_ever" "tree_for_ever" (topS 36) f_tree_for_ever d_tree_for_ever
  b_tree_for_ever : Binds K d_tree_for_ever ["names"] []
  f__law_draws : Addr
  d__law_draws : FuncData
  m__law_draws : mg "_law_draws" = some (.ref f__law_draws)
  F__law_draws : Fun K "_law_draws" "_law_draws" (topS 38) f__law_draws d__law_draws
  b__law_draws : Binds K d__law_draws ["script", "many"] []
  f__law_drop : Addr
  d__law_drop : FuncData
  m__law_drop : mg "_law_drop" = some (.ref f__law_drop)
  F__law_drop : Fun K "_law_drop" "_law_drop" (topS 40) f__law_drop d__law_drop
  b__law_drop : Binds K d__law_drop ["tree"] []
  f__law_names : Addr
  d__law_names : FuncData
  m__law_names : mg "_law_names" = some (.ref f__law_names)
  F__law_names : Fun K "_law_names" "_law_names" (topS 41) f__law_names d__law_names
  b__law_names : Binds K d__law_names ["tree", "many"] []
  f__law_rows : Addr
  d__law_rows : FuncData
  m__law_rows : mg "_law_rows" = some (.ref f__law_rows)
  F__law_rows : Fun K "_law_rows" "_law_rows" (topS 42) f__law_rows d__law_rows
  b__law_rows : Binds K d__law_rows ["size", "many", "kinds"] []
  f_law : Addr
  d_law : FuncData
  m_law : mg "law" = some (.ref f_law)
  F_law : Fun K "law" "law" (topS 43) f_law d_law
  b_law : Binds K d_law ["script"] []
  C_BadMany : Addr
  g_BadMany : mg "BadMany" = some (.ref C_BadMany)
  x_BadMany : PySem.W.excIn K C_BadMany [.type "ValueError", .type "Exception", .type "BaseException", .type "object"] "ValueError.__new__" = true
  k_BadMany : PySem.W.keepIn K (.ref C_BadMany) = true
  b_BadMany : PySem.W.subIn K (.ref C_BadMany) (.type "BaseException") = some true
  t_BadMany : PySem.W.typeIn K (.ref C_BadMany) = some (.type "type")
  C_BadNames : Addr
  g_BadNames : mg "BadNames" = some (.ref C_BadNames)
  x_BadNames : PySem.W.excIn K C_BadNames [.type "ValueError", .type "Exception", .type "BaseException", .type "object"] "ValueError.__new__" = true
  k_BadNames : PySem.W.keepIn K (.ref C_BadNames) = true
  b_BadNames : PySem.W.subIn K (.ref C_BadNames) (.type "BaseException") = some true
  t_BadNames : PySem.W.typeIn K (.ref C_BadNames) = some (.type "type")
  C_BadTree : Addr
  g_BadTree : mg "BadTree" = some (.ref C_BadTree)
  x_BadTree : PySem.W.excIn K C_BadTree [.type "ValueError", .type "Exception", .type "BaseException", .type "object"] "ValueError.__new__" = true
  k_BadTree : PySem.W.keepIn K (.ref C_BadTree) = true
  b_BadTree : PySem.W.subIn K (.ref C_BadTree) (.type "BaseException") = some true
  t_BadTree : PySem.W.typeIn K (.ref C_BadTree) = some (.type "type")
  z_abs : mg "abs" = none
  z_all : mg "all" = none
  z_bool : mg "bool" = none
  z_int : mg "int" = none
  z_isinstance : mg "isinstance" = none
  z_len : mg "len" = none
  z_max : mg "max" = none
  z_range : mg "range" = none
  z_set : mg "set" = none
  z_sorted : mg "sorted" = none
  z_str : mg "str" = none
  z_tuple : mg "tuple" = none
  c_LETTERS : GC w K mg "LETTERS" (c_LETTERS)
  c_END : GC w K mg "END" (c_END)
  c_SWITCH : GC w K mg "SWITCH" (c_SWITCH)
  c_SIDES : GC w K mg "SIDES" (c_SIDES)
  c_MOST_LETTERS : GC w K mg "MOST_LETTERS" (c_MOST_LETTERS)
  c_MOST_DEEP : GC w K mg "MOST_DEEP" (c_MOST_DEEP)
  c_MOST_THINGS : GC w K mg "MOST_THINGS" (c_MOST_THINGS)
  c_MOST_MARBLES : GC w K mg "MOST_MARBLES" (c_MOST_MARBLES)
  c_MOST_NAMES : GC w K mg "MOST_NAMES" (c_MOST_NAMES)
section
variable {P : Program} {w : World} {K : PySem.W.Frag} {mg : Str → Option Value} {base : Heap}
/-! ### is_whole : 0 value, 1 least, 2 most -/
abbrev N_is_whole : List Str := ["value", "least", "most"]
theorem sc_is_whole : FnScope N_is_whole ["value", "least", "most"] (defScope (topS 6)) := ⟨rfl, rfl, rfl, by decide +kernel, rfl, by decide +kernel, by decide +kernel⟩
def S_is_whole : ES := sRet (eAnd (e1 (dIsi' "int") (eVar 0)) (eAnd (eNot (e1 (dIsi' "bool") (eVar 0))) (eCh dLe dLe (eVar 1) (eVar 0) (eVar 2))))
def F_is_whole := runD 3 S_is_whole
theorem ok_is_whole (T : Txt P w K mg) : FnOk P w K mg base (L2.CX P w) 1 T.f_is_whole T.d_is_whole ["value", "least", "most"] (spF w K mg 3 F_is_whole) := by
  refine fn_ok (N := N_is_whole) (S := S_is_whole) T.F_is_whole sc_is_whole fun cdv A outer s H E hr => ?_
  have tk : Takes (cxOf (L2.CX P w) P w K mg base N_is_whole "is_whole" (defScope (topS 6)) T.f_is_whole cdv A outer s H E) (WD E) := tk_def
  have po : PassesOwn (model P w) (A.deeper (envOfC "is_whole" (defScope (topS 6)) s.heap.objs.size T.f_is_whole cdv)) (envOfC "is_whole" (defScope (topS 6)) s.heap.objs.size T.f_is_whole cdv) (cxOf (L2.CX P w) P w K mg base N_is_whole "is_whole" (defScope (topS 6)) T.f_is_whole cdv A outer s H E).xe := po_def
  exact ess_one (es_ret (ev_and (ev_isi (T := "int") rfl T.z_isinstance T.z_int (by decide +kernel) (by decide +kernel) (ev_var 0)) (ev_and (ev_not (ev_isi (T := "bool") rfl T.z_isinstance T.z_bool (by decide +kernel) (by decide +kernel) (ev_var 0))) (ev_one (ev_lele (ev_var 1) (ev_var 0) (ev_var 2))))))
/-! ### is_name : 0 value, 1 sign -/
abbrev N_is_name : List Str := ["value", "sign"]
theorem sc_is_name : FnScope N_is_name ["value"] (defScope (topS 16)) := ⟨rfl, rfl, rfl, by decide +kernel, rfl, by decide +kernel, by decide +kernel⟩
def S_is_name : ES := sRet (eAnd (e1 (dIsi' "str") (eVar 0)) (eAnd (eCh dLe dLe (eInt 1) (eA dLen (eCons (eVar 0) (eNil))) (eD (c_MOST_LETTERS))) (eA dAll (eCons (eComp (iSeq (eVar 0)) (aName 1) (tTrue) (e2 dIn (eVar 1) (eD (c_LETTERS))) [1]) (eNil)))))
def F_is_name := runD 2 S_is_name
theorem ok_is_name (T : Txt P w K mg) : FnOk P w K mg base (L2.CX P w) 1 T.f_is_name T.d_is_name ["value"] (spF w K mg 1 F_is_name) := by
  refine fn_ok (N := N_is_name) (S := S_is_name) T.F_is_name sc_is_name fun cdv A outer s H E hr => ?_
  have tk : Takes (cxOf (L2.CX P w) P w K mg base N_is_name "is_name" (defScope (topS 16)) T.f_is_name cdv A outer s H E) (WD E) := tk_def
  have po : PassesOwn (model P w) (A.deeper (envOfC "is_name" (defScope (topS 16)) s.heap.objs.size T.f_is_name cdv)) (envOfC "is_name" (defScope (topS 16)) s.heap.objs.size T.f_is_name cdv) (cxOf (L2.CX P w) P w K mg base N_is_name "is_name" (defScope (topS 16)) T.f_is_name cdv A outer s H E).xe := po_def
  exact ess_one (es_ret (ev_and (ev_isi (T := "str") rfl T.z_isinstance T.z_str (by decide +kernel) (by decide +kernel) (ev_var 0)) (ev_and (ev_lele (ev_int) (ev_len T.z_len (ea_cons (ev_var 0) (ea_nil))) (ev_glob T.c_MOST_LETTERS)) (ev_one (ev_all rfl T.z_all (ea_cons ((eo_comp (own := [("sign", 1)]) rfl sc_is_name.nd (ei_seq (ev_var 0)) (blkOk_by (N := N_is_name) (sc := defScope (topS 16)) (by decide +kernel)) (fun _ _ _ _ _ => eg_name 1 sc_is_name.nd) (by decide) (fun _ _ _ _ _ => ets_nil) (fun _ _ _ _ _ => ev_in (hu_room hr) (ev_var 1) (ev_glob T.c_LETTERS))).ev) (ea_nil)))))))
/-! ### _is_within : 0 value, 1 room -/
abbrev N__is_within : List Str := ["value", "room"]
theorem sc__is_within : FnScope N__is_within ["value", "room"] (defScope (topS 17)) := ⟨rfl, rfl, rfl, by decide +kernel, rfl, by decide +kernel, by decide +kernel⟩
def S__is_within (self : List D → R D) : ES := sCons (sIf (tOrB (tNotB (tV (e1 (dIsi' "tuple") (eVar 0)))) (tOrB (tV (e2 dNotIn (eA dLen (eCons (eVar 0) (eNil))) (eTup (eCons (eInt 2) (eCons (eInt 4) (eNil)))))) (tNotB (tV (e1 (dIsi' "str") (e2 dIx (eVar 0) (eInt 0))))))) (sRet (eBool false)) (sNil)) (sCons (sIf (tV (e2 dEq (e2 dIx (eVar 0) (eInt 0)) (eD (c_END)))) (sRet (eAnd (e2 dEq (eA dLen (eCons (eVar 0) (eNil))) (eInt 2)) (eCall F_is_name (eCons (e2 dIx (eVar 0) (eInt 1)) (eNil))))) (sNil)) (sCons (sIf (tOrB (tV (e2 dNe (e2 dIx (eVar 0) (eInt 0)) (eD (c_SWITCH)))) (tOrB (tV (e2 dNe (eA dLen (eCons (eVar 0) (eNil))) (eInt 4))) (tV (e2 dEq (eVar 1) (eInt 0))))) (sRet (eBool false)) (sNil)) (sCons (sIf (tOrB (tNotB (tV (e1 (dIsi' "str") (e2 dIx (eVar 0) (eInt 1))))) (tV (e2 dNotIn (e2 dIx (eVar 0) (eInt 1)) (eD (c_SIDES))))) (sRet (eBool false)) (sNil)) (sRet (eAnd (eCall self (eCons (e2 dIx (eVar 0) (eInt 2)) (eCons (e2 dSub (eVar 1) (eInt 1)) (eNil)))) (eCall self (eCons (e2 dIx (eVar 0) (eInt 3)) (eCons (e2 dSub (eVar 1) (eInt 1)) (eNil)))))))))
def F__is_within : Nat → List D → R D
  | 0 => fun _ => .stuck
  | n + 1 => runD 2 (S__is_within (F__is_within n))
theorem ok__is_within (T : Txt P w K mg) : ∀ n : Nat, FnOk P w K mg base (L2.CX P w) (1 + n) T.f__is_within T.d__is_within ["value", "room"] (spF w K mg 2 (F__is_within n))
  | 0 => fn_stuck
  | n + 1 => by
    have ih := ok__is_within T n
    refine fn_ok (N := N__is_within) (S := S__is_within (F__is_within n)) T.F__is_within sc__is_within fun cdv A outer s H E hr => ?_
    have tk : Takes (cxOf (L2.CX P w) P w K mg base N__is_within "_is_within" (defScope (topS 17)) T.f__is_within cdv A outer s H E) (WD E) := tk_def
    have po : PassesOwn (model P w) (A.deeper (envOfC "_is_within" (defScope (topS 17)) s.heap.objs.size T.f__is_within cdv)) (envOfC "_is_within" (defScope (topS 17)) s.heap.objs.size T.f__is_within cdv) (cxOf (L2.CX P w) P w K mg base N__is_within "_is_within" (defScope (topS 17)) T.f__is_within cdv A outer s H E).xe := po_def
    exact ess_cons (es_if (Ew.et (ew_or (et_not (et_val (ev_isi (T := "tuple") rfl T.z_isinstance T.z_tuple (by decide +kernel) (by decide +kernel) (ev_var 0)))) (ew_or (et_notIn (hu_room hr) (ev_len T.z_len (ea_cons (ev_var 0) (ea_nil))) (ev_tup (ea_cons (ev_int) (ea_cons (ev_int) (ea_nil))))) (ew_or1 (et_not (et_val (ev_isi (T := "str") rfl T.z_isinstance T.z_str (by decide +kernel) (by decide +kernel) (ev_ix (ev_var 0) (ev_int)))))))))
      (ess_one (es_ret (ev_bool)))
      (ess_nil))
      (ess_cons (es_if (et_eq (hu_room hr) (ev_ix (ev_var 0) (ev_int)) (ev_glob T.c_END))
      (ess_one (es_ret (ev_and (ev_eq (hu_room hr) (ev_len T.z_len (ea_cons (ev_var 0) (ea_nil))) (ev_int)) (ev_one (ev_call (ok_is_name T) rfl tk (hr.mono (by show _ ≤ 1 + n; omega)) T.m_is_name T.F_is_name.kp T.b_is_name (ea_cons (ev_ix (ev_var 0) (ev_int)) (ea_nil)))))))
      (ess_nil))
      (ess_cons (es_if (Ew.et (ew_or (et_ne (hu_room hr) (ev_ix (ev_var 0) (ev_int)) (ev_glob T.c_SWITCH)) (ew_or (et_ne (hu_room hr) (ev_len T.z_len (ea_cons (ev_var 0) (ea_nil))) (ev_int)) (ew_or1 (et_eq (hu_room hr) (ev_var 1) (ev_int))))))
      (ess_one (es_ret (ev_bool)))
      (ess_nil))
      (ess_cons (es_if (Ew.et (ew_or (et_not (et_val (ev_isi (T := "str") rfl T.z_isinstance T.z_str (by decide +kernel) (by decide +kernel) (ev_ix (ev_var 0) (ev_int))))) (ew_or1 (et_notIn (hu_room hr) (ev_ix (ev_var 0) (ev_int)) (ev_glob T.c_SIDES)))))
      (ess_one (es_ret (ev_bool)))
      (ess_nil))
      (ess_one (es_ret (ev_and (ev_call ih rfl tk (hr.mono (by show _ ≤ 1 + n; omega)) T.m__is_within T.F__is_within.kp T.b__is_within (ea_cons (ev_ix (ev_var 0) (ev_int)) (ea_cons (ev_sub (ev_var 1) (ev_int)) (ea_nil)))) (ev_one (ev_call ih rfl tk (hr.mono (by show _ ≤ 1 + n; omega)) T.m__is_within T.F__is_within.kp T.b__is_within (ea_cons (ev_ix (ev_var 0) (ev_int)) (ea_cons (ev_sub (ev_var 1) (ev_int)) (ea_nil)))))))))))
/-! ### things_in : 0 tree -/
abbrev N_things_in : List Str := ["tree"]
theorem sc_things_in : FnScope N_things_in ["tree"] (defScope (topS 18)) := ⟨rfl, rfl, rfl, by decide +kernel, rfl, by decide +kernel, by decide +kernel⟩
def S_things_in (self : List D → R D) : ES := sRet (eIte (tV (e2 dEq (e2 dIx (eVar 0) (eInt 0)) (eD (c_END)))) (eInt 1) (e2 dAdd (e2 dAdd (eInt 1) (eCall self (eCons (e2 dIx (eVar 0) (eInt 2)) (eNil)))) (eCall self (eCons (e2 dIx (eVar 0) (eInt 3)) (eNil)))))
def F_things_in : Nat → List D → R D
  | 0 => fun _ => .stuck
  | n + 1 => runD 1 (S_things_in (F_things_in n))
theorem ok_things_in (T : Txt P w K mg) : ∀ n : Nat, FnOk P w K mg base (L2.CX P w) (0 + n) T.f_things_in T.d_things_in ["tree"] (spF w K mg 1 (F_things_in n))
  | 0 => fn_stuck
  | n + 1 => by
    have ih := ok_things_in T n
    refine fn_ok (N := N_things_in) (S := S_things_in (F_things_in n)) T.F_things_in sc_things_in fun cdv A outer s H E hr => ?_
    have tk : Takes (cxOf (L2.CX P w) P w K mg base N_things_in "things_in" (defScope (topS 18)) T.f_things_in cdv A outer s H E) (WD E) := tk_def
    have po : PassesOwn (model P w) (A.deeper (envOfC "things_in" (defScope (topS 18)) s.heap.objs.size T.f_things_in cdv)) (envOfC "things_in" (defScope (topS 18)) s.heap.objs.size T.f_things_in cdv) (cxOf (L2.CX P w) P w K mg base N_things_in "things_in" (defScope (topS 18)) T.f_things_in cdv A outer s H E).xe := po_def
    exact ess_one (es_ret (ev_ite (et_eq (hu_room hr) (ev_ix (ev_var 0) (ev_int)) (ev_glob T.c_END)) (ev_int) (ev_add (ev_add (ev_int) (ev_call ih rfl tk (hr.mono (by show _ ≤ 0 + n; omega)) T.m_things_in T.F_things_in.kp T.b_things_in (ea_cons (ev_ix (ev_var 0) (ev_int)) (ea_nil)))) (ev_call ih rfl tk (hr.mono (by show _ ≤ 0 + n; omega)) T.m_things_in T.F_things_in.kp T.b_things_in (ea_cons (ev_ix (ev_var 0) (ev_int)) (ea_nil))))))
/-! ### is_tree : 0 value -/
abbrev N_is_tree : List Str := ["value"]
theorem sc_is_tree : FnScope N_is_tree ["value"] (defScope (topS 19)) := ⟨rfl, rfl, rfl, by decide +kernel, rfl, by decide +kernel, by decide +kernel⟩
def S_is_tree : ES := sRet (eAnd (eCall (F__is_within 16) (eCons (eVar 0) (eCons (eD (c_MOST_DEEP)) (eNil)))) (e2 dLe (eCall (F_things_in 16) (eCons (eVar 0) (eNil))) (eD (c_MOST_THINGS))))
def F_is_tree := runD 1 S_is_tree
theorem ok_is_tree (T : Txt P w K mg) : FnOk P w K mg base (L2.CX P w) 18 T.f_is_tree T.d_is_tree ["value"] (spF w K mg 1 F_is_tree) := by
  refine fn_ok (N := N_is_tree) (S := S_is_tree) T.F_is_tree sc_is_tree fun cdv A outer s H E hr => ?_
  have tk : Takes (cxOf (L2.CX P w) P w K mg base N_is_tree "is_tree" (defScope (topS 19)) T.f_is_tree cdv A outer s H E) (WD E) := tk_def
  have po : PassesOwn (model P w) (A.deeper (envOfC "is_tree" (defScope (topS 19)) s.heap.objs.size T.f_is_tree cdv)) (envOfC "is_tree" (defScope (topS 19)) s.heap.objs.size T.f_is_tree cdv) (cxOf (L2.CX P w) P w K mg base N_is_tree "is_tree" (defScope (topS 19)) T.f_is_tree cdv A outer s H E).xe := po_def
  exact ess_one (es_ret (ev_and (ev_call (ok__is_within T 16) rfl tk (hr.mono (by decide)) T.m__is_within T.F__is_within.kp T.b__is_within (ea_cons (ev_var 0) (ea_cons (ev_glob T.c_MOST_DEEP) (ea_nil)))) (ev_one (ev_le (ev_call (ok_things_in T 16) rfl tk (hr.mono (by decide)) T.m_things_in T.F_things_in.kp T.b_things_in (ea_cons (ev_var 0) (ea_nil))) (ev_glob T.c_MOST_THINGS)))))
/-! ### check_tree : 0 tree -/
abbrev N_check_tree : List Str := ["tree"]
theorem sc_check_tree : FnScope N_check_tree ["tree"] (defScope (topS 20)) := ⟨rfl, rfl, rfl, by decide +kernel, rfl, by decide +kernel, by decide +kernel⟩
def S_check_tree : ES := sIf (tNotB (tV (eCall F_is_tree (eCons (eVar 0) (eNil))))) (sRaise "BadTree") (sNil)
def F_check_tree := runD 1 S_check_tree
theorem ok_check_tree (T : Txt P w K mg) : FnOk P w K mg base (L2.CX P w) 19 T.f_check_tree T.d_check_tree ["tree"] (spF w K mg 1 F_check_tree) := by
  refine fn_ok (N := N_check_tree) (S := S_check_tree) T.F_check_tree sc_check_tree fun cdv A outer s H E hr => ?_
  have tk : Takes (cxOf (L2.CX P w) P w K mg base N_check_tree "check_tree" (defScope (topS 20)) T.f_check_tree cdv A outer s H E) (WD E) := tk_def
  have po : PassesOwn (model P w) (A.deeper (envOfC "check_tree" (defScope (topS 20)) s.heap.objs.size T.f_check_tree cdv)) (envOfC "check_tree" (defScope (topS 20)) s.heap.objs.size T.f_check_tree cdv) (cxOf (L2.CX P w) P w K mg base N_check_tree "check_tree" (defScope (topS 20)) T.f_check_tree cdv A outer s H E).xe := po_def
  exact ess_one (es_if (et_not (et_val (ev_call (ok_is_tree T) rfl tk (hr.mono (by decide)) T.m_is_tree T.F_is_tree.kp T.b_is_tree (ea_cons (ev_var 0) (ea_nil)))))
      (ess_one (es_raise rfl tk ⟨T.g_BadTree, T.x_BadTree, T.k_BadTree, T.b_BadTree, T.t_BadTree⟩))
      (ess_nil))
/-! ### _drop : 0 tree, 1 _switch, 2 side, 3 left, 4 right, 5 name -/
abbrev N__drop : List Str := ["tree", "_switch", "side", "left", "right", "name"]
theorem sc__drop : FnScope N__drop ["tree"] (defScope (topS 21)) := ⟨rfl, rfl, rfl, by decide +kernel, rfl, by decide +kernel, by decide +kernel⟩
def S__drop (self : List D → R D) : ES := sCons (sIf (tV (e2 dEq (e2 dIx (eVar 0) (eInt 0)) (eD (c_END)))) (sRet (eTup (eCons (eVar 0) (eCons (e2 dIx (eVar 0) (eInt 1)) (eNil))))) (sNil)) (sCons (sAsg (eVar 0) (aTup (aCons (aName 1) (aCons (aName 2) (aCons (aName 3) (aCons (aName 4) (aNil))))))) (sCons (sIf (tV (e2 dEq (eVar 2) (e2 dIx (eD (c_SIDES)) (eInt 0)))) (sCons (sAsg (eCall self (eCons (eVar 3) (eNil))) (aTup (aCons (aName 3) (aCons (aName 5) (aNil))))) (sRet (eTup (eCons (eTup (eCons (eD (c_SWITCH)) (eCons (e2 dIx (eD (c_SIDES)) (eInt 1)) (eCons (eVar 3) (eCons (eVar 4) (eNil)))))) (eCons (eVar 5) (eNil)))))) (sNil)) (sCons (sAsg (eCall self (eCons (eVar 4) (eNil))) (aTup (aCons (aName 4) (aCons (aName 5) (aNil))))) (sRet (eTup (eCons (eTup (eCons (eD (c_SWITCH)) (eCons (e2 dIx (eD (c_SIDES)) (eInt 0)) (eCons (eVar 3) (eCons (eVar 4) (eNil)))))) (eCons (eVar 5) (eNil))))))))
def F__drop : Nat → List D → R D
  | 0 => fun _ => .stuck
  | n + 1 => runD 6 (S__drop (F__drop n))
theorem ok__drop (T : Txt P w K mg) : ∀ n : Nat, FnOk P w K mg base (L2.CX P w) (0 + n) T.f__drop T.d__drop ["tree"] (spF w K mg 1 (F__drop n))
  | 0 => fn_stuck
  | n + 1 => by
    have ih := ok__drop T n
    refine fn_ok (N := N__drop) (S := S__drop (F__drop n)) T.F__drop sc__drop fun cdv A outer s H E hr => ?_
    have tk : Takes (cxOf (L2.CX P w) P w K mg base N__drop "_drop" (defScope (topS 21)) T.f__drop cdv A outer s H E) (WD E) := tk_def
    have po : PassesOwn (model P w) (A.deeper (envOfC "_drop" (defScope (topS 21)) s.heap.objs.size T.f__drop cdv)) (envOfC "_drop" (defScope (topS 21)) s.heap.objs.size T.f__drop cdv) (cxOf (L2.CX P w) P w K mg base N__drop "_drop" (defScope (topS 21)) T.f__drop cdv A outer s H E).xe := po_def
    exact ess_cons (es_if (et_eq (hu_room hr) (ev_ix (ev_var 0) (ev_int)) (ev_glob T.c_END))
      (ess_one (es_ret (ev_tup (ea_cons (ev_var 0) (ea_cons (ev_ix (ev_var 0) (ev_int)) (ea_nil))))))
      (ess_nil))
      (ess_cons (es_asg (ev_var 0) (eg_tup rfl (egs_cons (eg_name 1 sc__drop.nd) (egs_cons (eg_name 2 sc__drop.nd) (egs_cons (eg_name 3 sc__drop.nd) (egs_cons (eg_name 4 sc__drop.nd) (egs_nil)))))))
      (ess_cons (es_if (et_eq (hu_room hr) (ev_var 2) (ev_ix (ev_glob T.c_SIDES) (ev_int)))
      (ess_cons (es_asg (ev_call ih rfl tk (hr.mono (by show _ ≤ 0 + n; omega)) T.m__drop T.F__drop.kp T.b__drop (ea_cons (ev_var 3) (ea_nil))) (eg_tup rfl (egs_cons (eg_name 3 sc__drop.nd) (egs_cons (eg_name 5 sc__drop.nd) (egs_nil)))))
      (ess_one (es_ret (ev_tup (ea_cons (ev_tup (ea_cons (ev_glob T.c_SWITCH) (ea_cons (ev_ix (ev_glob T.c_SIDES) (ev_int)) (ea_cons (ev_var 3) (ea_cons (ev_var 4) (ea_nil)))))) (ea_cons (ev_var 5) (ea_nil)))))))
      (ess_nil))
      (ess_cons (es_asg (ev_call ih rfl tk (hr.mono (by show _ ≤ 0 + n; omega)) T.m__drop T.F__drop.kp T.b__drop (ea_cons (ev_var 4) (ea_nil))) (eg_tup rfl (egs_cons (eg_name 4 sc__drop.nd) (egs_cons (eg_name 5 sc__drop.nd) (egs_nil)))))
      (ess_one (es_ret (ev_tup (ea_cons (ev_tup (ea_cons (ev_glob T.c_SWITCH) (ea_cons (ev_ix (ev_glob T.c_SIDES) (ev_int)) (ea_cons (ev_var 3) (ea_cons (ev_var 4) (ea_nil)))))) (ea_cons (ev_var 5) (ea_nil)))))))))
/-! ### tree_ends : 0 tree, 1 many, 2 names, 3 _marble, 4 name -/
abbrev N_tree_ends : List Str := ["tree", "many", "names", "_marble", "name"]
theorem sc_tree_ends : FnScope N_tree_ends ["tree", "many"] (defScope (topS 22)) := ⟨rfl, rfl, rfl, by decide +kernel, rfl, by decide +kernel, by decide +kernel⟩
def B_tree_ends_1 : ES := sCons (sAsg (eCall (F__drop 16) (eCons (eVar 0) (eNil))) (aTup (aCons (aName 0) (aCons (aName 4) (aNil))))) (sApp 2 (eVar 4))
def S_tree_ends : ES := sCons (sExpr (eCall F_check_tree (eCons (eVar 0) (eNil)))) (sCons (sIf (tNotB (tV (eCall F_is_whole (eCons (eVar 1) (eCons (eInt 0) (eCons (eD (c_MOST_MARBLES)) (eNil))))))) (sRaise "BadMany") (sNil)) (sCons (sSet 2 (mO (eLst (eNil)))) (sCons (sFor (iRg1 (eVar 1)) (aName 3) (B_tree_ends_1) [1, 3, 4]) (sFrz 2 (sRet (eA dTuple (eCons (eVar 2) (eNil))))))))
def F_tree_ends := runD 5 S_tree_ends
theorem ok_tree_ends (T : Txt P w K mg) : FnOk P w K mg base (L2.CX P w) 20 T.f_tree_ends T.d_tree_ends ["tree", "many"] (spF w K mg 2 F_tree_ends) := by
  refine fn_ok (N := N_tree_ends) (S := S_tree_ends) T.F_tree_ends sc_tree_ends fun cdv A outer s H E hr => ?_
  have tk : Takes (cxOf (L2.CX P w) P w K mg base N_tree_ends "tree_ends" (defScope (topS 22)) T.f_tree_ends cdv A outer s H E) (WD E) := tk_def
  have po : PassesOwn (model P w) (A.deeper (envOfC "tree_ends" (defScope (topS 22)) s.heap.objs.size T.f_tree_ends cdv)) (envOfC "tree_ends" (defScope (topS 22)) s.heap.objs.size T.f_tree_ends cdv) (cxOf (L2.CX P w) P w K mg base N_tree_ends "tree_ends" (defScope (topS 22)) T.f_tree_ends cdv A outer s H E).xe := po_def
  exact ess_cons (es_expr (ev_call (ok_check_tree T) rfl tk (hr.mono (by decide)) T.m_check_tree T.F_check_tree.kp T.b_check_tree (ea_cons (ev_var 0) (ea_nil))))
      (ess_cons (es_if (et_not (et_val (ev_call (ok_is_whole T) rfl tk (hr.mono (by decide)) T.m_is_whole T.F_is_whole.kp T.b_is_whole (ea_cons (ev_var 1) (ea_cons (ev_int) (ea_cons (ev_glob T.c_MOST_MARBLES) (ea_nil)))))))
      (ess_one (es_raise rfl tk ⟨T.g_BadMany, T.x_BadMany, T.k_BadMany, T.b_BadMany, T.t_BadMany⟩))
      (ess_nil))
      (ess_cons (es_set 2 (Eo.em (eo_lst (ea_nil))) sc_tree_ends.nd)
      (ess_cons (es_for [1, 3, 4] po rfl (ei_range1 T.z_range (ev_var 1)) (eg_name 3 sc_tree_ends.nd)
      (ess_cons (es_asg (ev_call (ok__drop T 16) rfl tk (hr.mono (by decide)) T.m__drop T.F__drop.kp T.b__drop (ea_cons (ev_var 0) (ea_nil))) (eg_tup rfl (egs_cons (eg_name 0 sc_tree_ends.nd) (egs_cons (eg_name 4 sc_tree_ends.nd) (egs_nil)))))
      (ess_one (es_app 2 (ev_var 4)))))
      (ess_one (es_frz 2 (es_ret (ev_tuple T.z_tuple (ea_cons (ev_var 2) (ea_nil)))))))))
/-! ### _size : 0 tree -/
abbrev N__size : List Str := ["tree"]
theorem sc__size : FnScope N__size ["tree"] (defScope (topS 23)) := ⟨rfl, rfl, rfl, by decide +kernel, rfl, by decide +kernel, by decide +kernel⟩
def S__size (self : List D → R D) : ES := sRet (eIte (tV (e2 dEq (e2 dIx (eVar 0) (eInt 0)) (eD (c_END)))) (eInt 0) (e2 dAdd (e2 dAdd (eInt 1) (eCall self (eCons (e2 dIx (eVar 0) (eInt 2)) (eNil)))) (eCall self (eCons (e2 dIx (eVar 0) (eInt 3)) (eNil)))))
def F__size : Nat → List D → R D
  | 0 => fun _ => .stuck
  | n + 1 => runD 1 (S__size (F__size n))
theorem ok__size (T : Txt P w K mg) : ∀ n : Nat, FnOk P w K mg base (L2.CX P w) (0 + n) T.f__size T.d__size ["tree"] (spF w K mg 1 (F__size n))
  | 0 => fn_stuck
  | n + 1 => by
    have ih := ok__size T n
    refine fn_ok (N := N__size) (S := S__size (F__size n)) T.F__size sc__size fun cdv A outer s H E hr => ?_
    have tk : Takes (cxOf (L2.CX P w) P w K mg base N__size "_size" (defScope (topS 23)) T.f__size cdv A outer s H E) (WD E) := tk_def
    have po : PassesOwn (model P w) (A.deeper (envOfC "_size" (defScope (topS 23)) s.heap.objs.size T.f__size cdv)) (envOfC "_size" (defScope (topS 23)) s.heap.objs.size T.f__size cdv) (cxOf (L2.CX P w) P w K mg base N__size "_size" (defScope (topS 23)) T.f__size cdv A outer s H E).xe := po_def
    exact ess_one (es_ret (ev_ite (et_eq (hu_room hr) (ev_ix (ev_var 0) (ev_int)) (ev_glob T.c_END)) (ev_int) (ev_add (ev_add (ev_int) (ev_call ih rfl tk (hr.mono (by show _ ≤ 0 + n; omega)) T.m__size T.F__size.kp T.b__size (ea_cons (ev_ix (ev_var 0) (ev_int)) (ea_nil)))) (ev_call ih rfl tk (hr.mono (by show _ ≤ 0 + n; omega)) T.m__size T.F__size.kp T.b__size (ea_cons (ev_ix (ev_var 0) (ev_int)) (ea_nil))))))
/-! ### tree_size : 0 tree -/
abbrev N_tree_size : List Str := ["tree"]
theorem sc_tree_size : FnScope N_tree_size ["tree"] (defScope (topS 24)) := ⟨rfl, rfl, rfl, by decide +kernel, rfl, by decide +kernel, by decide +kernel⟩
def S_tree_size : ES := sCons (sExpr (eCall F_check_tree (eCons (eVar 0) (eNil)))) (sRet (eCall (F__size 16) (eCons (eVar 0) (eNil))))
def F_tree_size := runD 1 S_tree_size
theorem ok_tree_size (T : Txt P w K mg) : FnOk P w K mg base (L2.CX P w) 20 T.f_tree_size T.d_tree_size ["tree"] (spF w K mg 1 F_tree_size) := by
  refine fn_ok (N := N_tree_size) (S := S_tree_size) T.F_tree_size sc_tree_size fun cdv A outer s H E hr => ?_
  have tk : Takes (cxOf (L2.CX P w) P w K mg base N_tree_size "tree_size" (defScope (topS 24)) T.f_tree_size cdv A outer s H E) (WD E) := tk_def
  have po : PassesOwn (model P w) (A.deeper (envOfC "tree_size" (defScope (topS 24)) s.heap.objs.size T.f_tree_size cdv)) (envOfC "tree_size" (defScope (topS 24)) s.heap.objs.size T.f_tree_size cdv) (cxOf (L2.CX P w) P w K mg base N_tree_size "tree_size" (defScope (topS 24)) T.f_tree_size cdv A outer s H E).xe := po_def
  exact ess_cons (es_expr (ev_call (ok_check_tree T) rfl tk (hr.mono (by decide)) T.m_check_tree T.F_check_tree.kp T.b_check_tree (ea_cons (ev_var 0) (ea_nil))))
      (ess_one (es_ret (ev_call (ok__size T 16) rfl tk (hr.mono (by decide)) T.m__size T.F__size.kp T.b__size (ea_cons (ev_var 0) (ea_nil)))))
/-! ### deep_in : 0 tree -/
abbrev N_deep_in : List Str := ["tree"]
theorem sc_deep_in : FnScope N_deep_in ["tree"] (defScope (topS 25)) := ⟨rfl, rfl, rfl, by decide +kernel, rfl, by decide +kernel, by decide +kernel⟩
def S_deep_in (self : List D → R D) : ES := sRet (eIte (tV (e2 dEq (e2 dIx (eVar 0) (eInt 0)) (eD (c_END)))) (eInt 0) (e2 dAdd (eInt 1) (eA dMax2 (eCons (eCall self (eCons (e2 dIx (eVar 0) (eInt 2)) (eNil))) (eCons (eCall self (eCons (e2 dIx (eVar 0) (eInt 3)) (eNil))) (eNil))))))
def F_deep_in : Nat → List D → R D
  | 0 => fun _ => .stuck
  | n + 1 => runD 1 (S_deep_in (F_deep_in n))
theorem ok_deep_in (T : Txt P w K mg) : ∀ n : Nat, FnOk P w K mg base (L2.CX P w) (0 + n) T.f_deep_in T.d_deep_in ["tree"] (spF w K mg 1 (F_deep_in n))
  | 0 => fn_stuck
  | n + 1 => by
    have ih := ok_deep_in T n
    refine fn_ok (N := N_deep_in) (S := S_deep_in (F_deep_in n)) T.F_deep_in sc_deep_in fun cdv A outer s H E hr => ?_
    have tk : Takes (cxOf (L2.CX P w) P w K mg base N_deep_in "deep_in" (defScope (topS 25)) T.f_deep_in cdv A outer s H E) (WD E) := tk_def
    have po : PassesOwn (model P w) (A.deeper (envOfC "deep_in" (defScope (topS 25)) s.heap.objs.size T.f_deep_in cdv)) (envOfC "deep_in" (defScope (topS 25)) s.heap.objs.size T.f_deep_in cdv) (cxOf (L2.CX P w) P w K mg base N_deep_in "deep_in" (defScope (topS 25)) T.f_deep_in cdv A outer s H E).xe := po_def
    exact ess_one (es_ret (ev_ite (et_eq (hu_room hr) (ev_ix (ev_var 0) (ev_int)) (ev_glob T.c_END)) (ev_int) (ev_add (ev_int) (ev_max2 rfl T.z_max (ea_cons (ev_call ih rfl tk (hr.mono (by show _ ≤ 0 + n; omega)) T.m_deep_in T.F_deep_in.kp T.b_deep_in (ea_cons (ev_ix (ev_var 0) (ev_int)) (ea_nil))) (ea_cons (ev_call ih rfl tk (hr.mono (by show _ ≤ 0 + n; omega)) T.m_deep_in T.F_deep_in.kp T.b_deep_in (ea_cons (ev_ix (ev_var 0) (ev_int)) (ea_nil))) (ea_nil)))))))
/-! ### again_in : 0 tree -/
abbrev N_again_in : List Str := ["tree"]
theorem sc_again_in : FnScope N_again_in ["tree"] (defScope (topS 26)) := ⟨rfl, rfl, rfl, by decide +kernel, rfl, by decide +kernel, by decide +kernel⟩
def S_again_in : ES := sRet (e2 dShl (eInt 1) (eCall (F_deep_in 16) (eCons (eVar 0) (eNil))))
def F_again_in := runD 1 S_again_in
theorem ok_again_in (T : Txt P w K mg) : FnOk P w K mg base (L2.CX P w) 17 T.f_again_in T.d_again_in ["tree"] (spF w K mg 1 F_again_in) := by
  refine fn_ok (N := N_again_in) (S := S_again_in) T.F_again_in sc_again_in fun cdv A outer s H E hr => ?_
  have tk : Takes (cxOf (L2.CX P w) P w K mg base N_again_in "again_in" (defScope (topS 26)) T.f_again_in cdv A outer s H E) (WD E) := tk_def
  have po : PassesOwn (model P w) (A.deeper (envOfC "again_in" (defScope (topS 26)) s.heap.objs.size T.f_again_in cdv)) (envOfC "again_in" (defScope (topS 26)) s.heap.objs.size T.f_again_in cdv) (cxOf (L2.CX P w) P w K mg base N_again_in "again_in" (defScope (topS 26)) T.f_again_in cdv A outer s H E).xe := po_def
  exact ess_one (es_ret (ev_shl (ev_int) (ev_call (ok_deep_in T 16) rfl tk (hr.mono (by decide)) T.m_deep_in T.F_deep_in.kp T.b_deep_in (ea_cons (ev_var 0) (ea_nil)))))
/-! ### tree_again : 0 tree -/
abbrev N_tree_again : List Str := ["tree"]
theorem sc_tree_again : FnScope N_tree_again ["tree"] (defScope (topS 27)) := ⟨rfl, rfl, rfl, by decide +kernel, rfl, by decide +kernel, by decide +kernel⟩
def S_tree_again : ES := sCons (sExpr (eCall F_check_tree (eCons (eVar 0) (eNil)))) (sRet (eCall F_again_in (eCons (eVar 0) (eNil))))
def F_tree_again := runD 1 S_tree_again
theorem ok_tree_again (T : Txt P w K mg) : FnOk P w K mg base (L2.CX P w) 20 T.f_tree_again T.d_tree_again ["tree"] (spF w K mg 1 F_tree_again) := by
  refine fn_ok (N := N_tree_again) (S := S_tree_again) T.F_tree_again sc_tree_again fun cdv A outer s H E hr => ?_
  have tk : Takes (cxOf (L2.CX P w) P w K mg base N_tree_again "tree_again" (defScope (topS 27)) T.f_tree_again cdv A outer s H E) (WD E) := tk_def
  have po : PassesOwn (model P w) (A.deeper (envOfC "tree_again" (defScope (topS 27)) s.heap.objs.size T.f_tree_again cdv)) (envOfC "tree_again" (defScope (topS 27)) s.heap.objs.size T.f_tree_again cdv) (cxOf (L2.CX P w) P w K mg base N_tree_again "tree_again" (defScope (topS 27)) T.f_tree_again cdv A outer s H E).xe := po_def
  exact ess_cons (es_expr (ev_call (ok_check_tree T) rfl tk (hr.mono (by decide)) T.m_check_tree T.F_check_tree.kp T.b_check_tree (ea_cons (ev_var 0) (ea_nil))))
      (ess_one (es_ret (ev_call (ok_again_in T) rfl tk (hr.mono (by decide)) T.m_again_in T.F_again_in.kp T.b_again_in (ea_cons (ev_var 0) (ea_nil)))))
/-! ### _check_names : 0 names, 1 one -/
abbrev N__check_names : List Str := ["names", "one"]
theorem sc__check_names : FnScope N__check_names ["names"] (defScope (topS 30)) := ⟨rfl, rfl, rfl, by decide +kernel, rfl, by decide +kernel, by decide +kernel⟩
def S__check_names : ES := sIf (tOrB (tNotB (tV (e1 (dIsi' "tuple") (eVar 0)))) (tOrB (tNotB (tV (eCh dLe dLe (eInt 1) (eA dLen (eCons (eVar 0) (eNil))) (eD (c_MOST_NAMES))))) (tNotB (tV (eA dAll (eCons (eComp (iSeq (eVar 0)) (aName 1) (tTrue) (eCall F_is_name (eCons (eVar 1) (eNil))) [1]) (eNil))))))) (sRaise "BadNames") (sNil)
def F__check_names := runD 2 S__check_names
theorem ok__check_names (T : Txt P w K mg) : FnOk P w K mg base (L2.CX P w) 2 T.f__check_names T.d__check_names ["names"] (spF w K mg 1 F__check_names) := by
  refine fn_ok (N := N__check_names) (S := S__check_names) T.F__check_names sc__check_names fun cdv A outer s H E hr => ?_
  have tk : Takes (cxOf (L2.CX P w) P w K mg base N__check_names "_check_names" (defScope (topS 30)) T.f__check_names cdv A outer s H E) (WD E) := tk_def
  have po : PassesOwn (model P w) (A.deeper (envOfC "_check_names" (defScope (topS 30)) s.heap.objs.size T.f__check_names cdv)) (envOfC "_check_names" (defScope (topS 30)) s.heap.objs.size T.f__check_names cdv) (cxOf (L2.CX P w) P w K mg base N__check_names "_check_names" (defScope (topS 30)) T.f__check_names cdv A outer s H E).xe := po_def
  exact ess_one (es_if (Ew.et (ew_or (et_not (et_val (ev_isi (T := "tuple") rfl T.z_isinstance T.z_tuple (by decide +kernel) (by decide +kernel) (ev_var 0)))) (ew_or (et_not (et_lele (ev_int) (ev_len T.z_len (ea_cons (ev_var 0) (ea_nil))) (ev_glob T.c_MOST_NAMES))) (ew_or1 (et_not (et_val (ev_all rfl T.z_all (ea_cons ((eo_comp (own := [("one", 1)]) rfl sc__check_names.nd (ei_seq (ev_var 0)) (blkOk_by (N := N__check_names) (sc := defScope (topS 30)) (by decide +kernel)) (fun _ _ _ _ _ => eg_name 1 sc__check_names.nd) (by decide) (fun _ _ _ _ _ => ets_nil) (fun _ _ _ _ _ => ev_call (ok_is_name T) rfl takes0 (hr.mono (by decide)) T.m_is_name T.F_is_name.kp T.b_is_name (ea_cons (ev_var 1) (ea_nil)))).ev) (ea_nil)))))))))
      (ess_one (es_raise rfl tk ⟨T.g_BadNames, T.x_BadNames, T.k_BadNames, T.b_BadNames, T.t_BadNames⟩))
      (ess_nil))
/-! ### _built : 0 names, 1 one -/
abbrev N__built : List Str := ["names", "one"]
theorem sc__built : FnScope N__built ["names"] (defScope (topS 31)) := ⟨rfl, rfl, rfl, by decide +kernel, rfl, by decide +kernel, by decide +kernel⟩
def S__built (self : List D → R D) : ES := sCons (sIf (tV (eA dAll (eCons (eComp (iSeq (eVar 0)) (aName 1) (tTrue) (e2 dEq (eVar 1) (e2 dIx (eVar 0) (eInt 0))) [1]) (eNil)))) (sRet (eTup (eCons (eD (c_END)) (eCons (e2 dIx (eVar 0) (eInt 0)) (eNil))))) (sNil)) (sRet (eTup (eCons (eD (c_SWITCH)) (eCons (e2 dIx (eD (c_SIDES)) (eInt 0)) (eCons (eCall self (eCons (eStride (eVar 0) 2 (pNone)) (eNil))) (eCons (eCall self (eCons (eStride (eVar 0) 2 (pSome (eInt 1))) (eNil))) (eNil)))))))
def F__built : Nat → List D → R D
  | 0 => fun _ => .stuck
  | n + 1 => runD 2 (S__built (F__built n))
theorem ok__built (T : Txt P w K mg) : ∀ n : Nat, FnOk P w K mg base (L2.CX P w) (0 + n) T.f__built T.d__built ["names"] (spF w K mg 1 (F__built n))
  | 0 => fn_stuck
  | n + 1 => by
    have ih := ok__built T n
    refine fn_ok (N := N__built) (S := S__built (F__built n)) T.F__built sc__built fun cdv A outer s H E hr => ?_
    have tk : Takes (cxOf (L2.CX P w) P w K mg base N__built "_built" (defScope (topS 31)) T.f__built cdv A outer s H E) (WD E) := tk_def
    have po : PassesOwn (model P w) (A.deeper (envOfC "_built" (defScope (topS 31)) s.heap.objs.size T.f__built cdv)) (envOfC "_built" (defScope (topS 31)) s.heap.objs.size T.f__built cdv) (cxOf (L2.CX P w) P w K mg base N__built "_built" (defScope (topS 31)) T.f__built cdv A outer s H E).xe := po_def
    exact ess_cons (es_if (et_val (ev_all rfl T.z_all (ea_cons ((eo_comp (own := [("one", 1)]) rfl sc__built.nd (ei_seq (ev_var 0)) (blkOk_by (N := N__built) (sc := defScope (topS 31)) (by decide +kernel)) (fun _ _ _ _ _ => eg_name 1 sc__built.nd) (by decide) (fun _ _ _ _ _ => ets_nil) (fun _ _ _ _ _ => ev_eq (hu_room hr) (ev_var 1) (ev_ix (ev_var 0) (ev_int)))).ev) (ea_nil))))
      (ess_one (es_ret (ev_tup (ea_cons (ev_glob T.c_END) (ea_cons (ev_ix (ev_var 0) (ev_int)) (ea_nil))))))
      (ess_nil))
      (ess_one (es_ret (ev_tup (ea_cons (ev_glob T.c_SWITCH) (ea_cons (ev_ix (ev_glob T.c_SIDES) (ev_int)) (ea_cons (ev_call ih rfl tk (hr.mono (by show _ ≤ 0 + n; omega)) T.m__built T.F__built.kp T.b__built (ea_cons (ev_stride (k := 2) (ev_var 0) (ep_none)) (ea_nil))) (ea_cons (ev_call ih rfl tk (hr.mono (by show _ ≤ 0 + n; omega)) T.m__built T.F__built.kp T.b__built (ea_cons (ev_stride (k := 2) (ev_var 0) (ep_some (ev_int))) (ea_nil))) (ea_nil))))))))
/-! ### tree_for : 0 names -/
abbrev N_tree_for : List Str := ["names"]
theorem sc_tree_for : FnScope N_tree_for ["names"] (defScope (topS 32)) := ⟨rfl, rfl, rfl, by decide +kernel, rfl, by decide +kernel, by decide +kernel⟩
def S_tree_for : ES := sCons (sExpr (eCall F__check_names (eCons (eVar 0) (eNil)))) (sRet (eCall (F__built 16) (eCons (eVar 0) (eNil))))
def F_tree_for := runD 1 S_tree_for
theorem ok_tree_for (T : Txt P w K mg) : FnOk P w K mg base (L2.CX P w) 17 T.f_tree_for T.d_tree_for ["names"] (spF w K mg 1 F_tree_for) := by
  refine fn_ok (N := N_tree_for) (S := S_tree_for) T.F_tree_for sc_tree_for fun cdv A outer s H E hr => ?_
  have tk : Takes (cxOf (L2.CX P w) P w K mg base N_tree_for "tree_for" (defScope (topS 32)) T.f_tree_for cdv A outer s H E) (WD E) := tk_def
  have po : PassesOwn (model P w) (A.deeper (envOfC "tree_for" (defScope (topS 32)) s.heap.objs.size T.f_tree_for cdv)) (envOfC "tree_for" (defScope (topS 32)) s.heap.objs.size T.f_tree_for cdv) (cxOf (L2.CX P w) P w K mg base N_tree_for "tree_for" (defScope (topS 32)) T.f_tree_for cdv A outer s H E).xe := po_def
  exact ess_cons (es_expr (ev_call (ok__check_names T) rfl tk (hr.mono (by decide)) T.m__check_names T.F__check_names.kp T.b__check_names (ea_cons (ev_var 0) (ea_nil))))
      (ess_one (es_ret (ev_call (ok__built T 16) rfl tk (hr.mono (by decide)) T.m__built T.F__built.kp T.b__built (ea_cons (ev_var 0) (ea_nil)))))
/-! ### _needed : 0 names, 1 one -/
abbrev N__needed : List Str := ["names", "one"]
theorem sc__needed : FnScope N__needed ["names"] (defScope (topS 33)) := ⟨rfl, rfl, rfl, by decide +kernel, rfl, by decide +kernel, by decide +kernel⟩
def S__needed (self : List D → R D) : ES := sCons (sIf (tV (eA dAll (eCons (eComp (iSeq (eVar 0)) (aName 1) (tTrue) (e2 dEq (eVar 1) (e2 dIx (eVar 0) (eInt 0))) [1]) (eNil)))) (sRet (eInt 0)) (sNil)) (sRet (e2 dAdd (e2 dAdd (eInt 1) (eCall self (eCons (eStride (eVar 0) 2 (pNone)) (eNil)))) (eCall self (eCons (eStride (eVar 0) 2 (pSome (eInt 1))) (eNil)))))
def F__needed : Nat → List D → R D
  | 0 => fun _ => .stuck
  | n + 1 => runD 2 (S__needed (F__needed n))
theorem ok__needed (T : Txt P w K mg) : ∀ n : Nat, FnOk P w K mg base (L2.CX P w) (0 + n) T.f__needed T.d__needed ["names"] (spF w K mg 1 (F__needed n))
  | 0 => fn_stuck
  | n + 1 => by
    have ih := ok__needed T n
    refine fn_ok (N := N__needed) (S := S__needed (F__needed n)) T.F__needed sc__needed fun cdv A outer s H E hr => ?_
    have tk : Takes (cxOf (L2.CX P w) P w K mg base N__needed "_needed" (defScope (topS 33)) T.f__needed cdv A outer s H E) (WD E) := tk_def
    have po : PassesOwn (model P w) (A.deeper (envOfC "_needed" (defScope (topS 33)) s.heap.objs.size T.f__needed cdv)) (envOfC "_needed" (defScope (topS 33)) s.heap.objs.size T.f__needed cdv) (cxOf (L2.CX P w) P w K mg base N__needed "_needed" (defScope (topS 33)) T.f__needed cdv A outer s H E).xe := po_def
    exact ess_cons (es_if (et_val (ev_all rfl T.z_all (ea_cons ((eo_comp (own := [("one", 1)]) rfl sc__needed.nd (ei_seq (ev_var 0)) (blkOk_by (N := N__needed) (sc := defScope (topS 33)) (by decide +kernel)) (fun _ _ _ _ _ => eg_name 1 sc__needed.nd) (by decide) (fun _ _ _ _ _ => ets_nil) (fun _ _ _ _ _ => ev_eq (hu_room hr) (ev_var 1) (ev_ix (ev_var 0) (ev_int)))).ev) (ea_nil))))
      (ess_one (es_ret (ev_int)))
      (ess_nil))
      (ess_one (es_ret (ev_add (ev_add (ev_int) (ev_call ih rfl tk (hr.mono (by show _ ≤ 0 + n; omega)) T.m__needed T.F__needed.kp T.b__needed (ea_cons (ev_stride (k := 2) (ev_var 0) (ep_none)) (ea_nil)))) (ev_call ih rfl tk (hr.mono (by show _ ≤ 0 + n; omega)) T.m__needed T.F__needed.kp T.b__needed (ea_cons (ev_stride (k := 2) (ev_var 0) (ep_some (ev_int))) (ea_nil))))))
/-! ### switches_for : 0 names -/
abbrev N_switches_for : List Str := ["names"]
theorem sc_switches_for : FnScope N_switches_for ["names"] (defScope (topS 34)) := ⟨rfl, rfl, rfl, by decide +kernel, rfl, by decide +kernel, by decide +kernel⟩
def S_switches_for : ES := sCons (sExpr (eCall F__check_names (eCons (eVar 0) (eNil)))) (sRet (eCall (F__needed 16) (eCons (eVar 0) (eNil))))
def F_switches_for := runD 1 S_switches_for
theorem ok_switches_for (T : Txt P w K mg) : FnOk P w K mg base (L2.CX P w) 17 T.f_switches_for T.d_switches_for ["names"] (spF w K mg 1 F_switches_for) := by
  refine fn_ok (N := N_switches_for) (S := S_switches_for) T.F_switches_for sc_switches_for fun cdv A outer s H E hr => ?_
  have tk : Takes (cxOf (L2.CX P w) P w K mg base N_switches_for "switches_for" (defScope (topS 34)) T.f_switches_for cdv A outer s H E) (WD E) := tk_def
  have po : PassesOwn (model P w) (A.deeper (envOfC "switches_for" (defScope (topS 34)) s.heap.objs.size T.f_switches_for cdv)) (envOfC "switches_for" (defScope (topS 34)) s.heap.objs.size T.f_switches_for cdv) (cxOf (L2.CX P w) P w K mg base N_switches_for "switches_for" (defScope (topS 34)) T.f_switches_for cdv A outer s H E).xe := po_def
  exact ess_cons (es_expr (ev_call (ok__check_names T) rfl tk (hr.mono (by decide)) T.m__check_names T.F__check_names.kp T.b__check_names (ea_cons (ev_var 0) (ea_nil))))
      (ess_one (es_ret (ev_call (ok__needed T 16) rfl tk (hr.mono (by decide)) T.m__needed T.F__needed.kp T.b__needed (ea_cons (ev_var 0) (ea_nil)))))
/-! ### _shortest : 0 names, 1 many, 2 sizes, 3 good, 4 size -/
abbrev N__shortest : List Str := ["names", "many", "sizes", "good", "size"]
theorem sc__shortest : FnScope N__shortest ["names"] (defScope (topS 35)) := ⟨rfl, rfl, rfl, by decide +kernel, rfl, by decide +kernel, by decide +kernel⟩
def S__shortest : ES := sCons (sSet 1 (mF (eA dLen (eCons (eVar 0) (eNil))))) (sCons (sSet 2 (mF (eComp (iRg2 (eInt 1) (e2 dAdd (eVar 1) (eInt 1))) (aName 4) (tV (e2 dEq (e2 dMod (eVar 1) (eVar 4)) (eInt 0))) (eVar 4) [4]))) (sCons (sSet 3 (mF (eComp (iSeq (eVar 2)) (aName 4) (tV (e2 dEq (eVar 0) (e2 dMulT (eCut (eVar 0) (pNone) (pSome (eVar 4))) (e2 dFdiv (eVar 1) (eVar 4))))) (eVar 4) [4]))) (sRet (eCut (eVar 0) (pNone) (pSome (e2 dIx (eVar 3) (eInt 0)))))))
def F__shortest := runD 5 S__shortest
theorem ok__shortest (T : Txt P w K mg) : FnOk P w K mg base (L2.CX P w) 1 T.f__shortest T.d__shortest ["names"] (spF w K mg 1 F__shortest) := by
  refine fn_ok (N := N__shortest) (S := S__shortest) T.F__shortest sc__shortest fun cdv A outer s H E hr => ?_
  have tk : Takes (cxOf (L2.CX P w) P w K mg base N__shortest "_shortest" (defScope (topS 35)) T.f__shortest cdv A outer s H E) (WD E) := tk_def
  have po : PassesOwn (model P w) (A.deeper (envOfC "_shortest" (defScope (topS 35)) s.heap.objs.size T.f__shortest cdv)) (envOfC "_shortest" (defScope (topS 35)) s.heap.objs.size T.f__shortest cdv) (cxOf (L2.CX P w) P w K mg base N__shortest "_shortest" (defScope (topS 35)) T.f__shortest cdv A outer s H E).xe := po_def
  exact ess_cons (es_set 1 (Ev.em (ev_len T.z_len (ea_cons (ev_var 0) (ea_nil)))) sc__shortest.nd)
      (ess_cons (es_setF (es_setLc (own := [("size", 4)]) rfl sc__shortest.nd rfl rfl (sw_true rfl rfl rfl (by decide +kernel)) (ei_range2 T.z_range (ev_int) (ev_add (ev_var 1) (ev_int))) (blkOk_by (N := N__shortest) (sc := defScope (topS 35)) (by decide +kernel)) (fun _ _ _ _ _ => eg_name 4 sc__shortest.nd) (by decide) (fun _ _ _ _ _ => ets_one (et_eq (hu_room hr) (ev_mod (ev_var 1) (ev_var 4)) (ev_int))) (fun _ _ _ _ _ => ev_var 4)))
      (ess_cons (es_setF (es_setLc (own := [("size", 4)]) rfl sc__shortest.nd rfl rfl (sw_true rfl rfl rfl (by decide +kernel)) (ei_seq (ev_var 2)) (blkOk_by (N := N__shortest) (sc := defScope (topS 35)) (by decide +kernel)) (fun _ _ _ _ _ => eg_name 4 sc__shortest.nd) (by decide) (fun _ _ _ _ _ => ets_one (et_eq (hu_room hr) (ev_var 0) (ev_mulT (ev_cut (ev_var 0) (ep_none) (ep_some (ev_var 4))) (ev_fdiv (ev_var 1) (ev_var 4))))) (fun _ _ _ _ _ => ev_var 4)))
      (ess_one (es_ret (ev_cut (ev_var 0) (ep_none) (ep_some (ev_ix (ev_var 3) (ev_int))))))))
/-! ### tree_for_ever : 0 names, 1 row, 2 size -/
abbrev N_tree_for_ever : List Str := ["names", "row", "size"]
theorem sc_tree_for_ever : FnScope N_tree_for_ever ["names"] (defScope (topS 36)) := ⟨rfl, rfl, rfl, by decide +kernel, rfl, by decide +kernel, by decide +kernel⟩
def B_tree_for_ever_1 : ES := sAug 2 dIFdiv (eInt 2)
def T_tree_for_ever_1 : ET := tV (e2 dEq (e2 dMod (eVar 2) (eInt 2)) (eInt 0))
def S_tree_for_ever : ES := sCons (sExpr (eCall F__check_names (eCons (eVar 0) (eNil)))) (sCons (sSet 1 (mF (eCall F__shortest (eCons (eVar 0) (eNil))))) (sCons (sSet 2 (mF (eA dLen (eCons (eVar 1) (eNil))))) (sCons (sWhile (T_tree_for_ever_1) (B_tree_for_ever_1) [0]) (sRet (eIte (tV (e2 dEq (eVar 2) (eInt 1))) (eCall (F__built 16) (eCons (eVar 1) (eNil))) (eNone))))))
def F_tree_for_ever := runD 3 S_tree_for_ever
theorem ok_tree_for_ever (T : Txt P w K mg) : FnOk P w K mg base (L2.CX P w) 17 T.f_tree_for_ever T.d_tree_for_ever ["names"] (spF w K mg 1 F_tree_for_ever) := by
  refine fn_ok (N := N_tree_for_ever) (S := S_tree_for_ever) T.F_tree_for_ever sc_tree_for_ever fun cdv A outer s H E hr => ?_
  have tk : Takes (cxOf (L2.CX P w) P w K mg base N_tree_for_ever "tree_for_ever" (defScope (topS 36)) T.f_tree_for_ever cdv A outer s H E) (WD E) := tk_def
  have po : PassesOwn (model P w) (A.deeper (envOfC "tree_for_ever" (defScope (topS 36)) s.heap.objs.size T.f_tree_for_ever cdv)) (envOfC "tree_for_ever" (defScope (topS 36)) s.heap.objs.size T.f_tree_for_ever cdv) (cxOf (L2.CX P w) P w K mg base N_tree_for_ever "tree_for_ever" (defScope (topS 36)) T.f_tree_for_ever cdv A outer s H E).xe := po_def
  exact ess_cons (es_expr (ev_call (ok__check_names T) rfl tk (hr.mono (by decide)) T.m__check_names T.F__check_names.kp T.b__check_names (ea_cons (ev_var 0) (ea_nil))))
      (ess_cons (es_set 1 (Ev.em (ev_call (ok__shortest T) rfl tk (hr.mono (by decide)) T.m__shortest T.F__shortest.kp T.b__shortest (ea_cons (ev_var 0) (ea_nil)))) sc_tree_for_ever.nd)
      (ess_cons (es_set 2 (Ev.em (ev_len T.z_len (ea_cons (ev_var 1) (ea_nil)))) sc_tree_for_ever.nd)
      (ess_cons (es_while [0] po (et_eq (hu_room hr) (ev_mod (ev_var 2) (ev_int)) (ev_int))
      (ess_one (es_ifdiv 2 (ev_int) sc_tree_for_ever.nd)))
      (ess_one (es_ret (ev_ite (et_eq (hu_room hr) (ev_var 2) (ev_int)) (ev_call (ok__built T 16) rfl tk (hr.mono (by decide)) T.m__built T.F__built.kp T.b__built (ea_cons (ev_var 1) (ea_nil))) (ev_none)))))))
/-! ### _law_draws : 0 script, 1 many, 2 draws, 3 seed, 4 cell, 5 k, 6 number -/
abbrev N__law_draws : List Str := ["script", "many", "draws", "seed", "cell", "k", "number"]
theorem sc__law_draws : FnScope N__law_draws ["script", "many"] (defScope (topS 38)) := ⟨rfl, rfl, rfl, by decide +kernel, rfl, by decide +kernel, by decide +kernel⟩
theorem ok__law_draws (T : Txt P w K mg) : FnOk P w K mg base (L2.CX P w) 1 T.f__law_draws T.d__law_draws ["script", "many"] (spS w K mg 2 F__law_draws) := by
  refine fn_okS (N := N__law_draws) (S := S__law_draws) T.F__law_draws sc__law_draws fun cdv A outer s H E hr => ?_
  have tk : Takes (cxOf (L2.CX P w) P w K mg base N__law_draws "_law_draws" (defScope (topS 38)) T.f__law_draws cdv A outer s H E) (WD E) := tk_def
  have po : PassesOwn (model P w) (A.deeper (envOfC "_law_draws" (defScope (topS 38)) s.heap.objs.size T.f__law_draws cdv)) (envOfC "_law_draws" (defScope (topS 38)) s.heap.objs.size T.f__law_draws cdv) (cxOf (L2.CX P w) P w K mg base N__law_draws "_law_draws" (defScope (topS 38)) T.f__law_draws cdv A outer s H E).xe := po_def
  exact ess_cons (es_set 2 (Eo.em (eo_lst (ea_nil))) sc__law_draws.nd)
      (ess_cons (es_set 3 (Ev.em (ev_int)) sc__law_draws.nd)
      (ess_cons (es_for [0, 4, 5, 6] po rfl (ei_seq (ev_cutS 0 (ep_none) (ep_some (ev_int)))) (eg_name 4 sc__law_draws.nd)
      (ess_cons (es_set 6 (Ev.em (ev_abs T.z_abs (ea_cons (ev_var 4) (ea_nil)))) sc__law_draws.nd)
      (ess_cons (es_set 3 (Ev.em (ev_mod (ev_intc T.z_int (ea_cons (ev_add (ev_add (ev_mul (ev_var 3) (ev_int)) (ev_var 6)) (ev_int)) (ea_nil))) (ev_int))) sc__law_draws.nd)
      (ess_one (es_if (et_ge (ev_var 6) (ev_pow (ev_int) (ev_int)))
      (ess_one (es_for [0, 4, 5] po rfl (ei_range1 T.z_range (ev_int)) (eg_name 5 sc__law_draws.nd)
      (ess_one (es_if (et_gt (ev_var 6) (ev_int))
      (ess_cons (es_app 2 (ev_mod (ev_intc T.z_int (ea_cons (ev_var 6) (ea_nil))) (ev_int)))
      (ess_one (es_set 6 (Ev.em (ev_fdiv (ev_var 6) (ev_int))) sc__law_draws.nd)))
      (ess_nil)))))
      (ess_one (es_app 2 (ev_mod (ev_fdiv (ev_intc T.z_int (ea_cons (ev_add (ev_mul (ev_var 3) (ev_int)) (ev_int)) (ea_nil))) (ev_int)) (ev_int)))))))))
      (ess_cons (es_for [0, 4, 5, 6] po rfl (ei_range1 T.z_range (ev_var 1)) (eg_name 5 sc__law_draws.nd)
      (ess_one (es_if (et_bor 2 (et_lt (hu_room hr) (ev_len T.z_len (ea_cons (ev_var 2) (ea_nil))) (ev_var 1)))
      (ess_cons (es_set 3 (Ev.em (ev_mod (ev_intc T.z_int (ea_cons (ev_add (ev_add (ev_mul (ev_var 3) (ev_int)) (ev_var 5)) (ev_int)) (ea_nil))) (ev_int))) sc__law_draws.nd)
      (ess_one (es_app 2 (ev_mod (ev_fdiv (ev_intc T.z_int (ea_cons (ev_var 3) (ea_nil))) (ev_int)) (ev_int)))))
      (ess_nil))))
      (ess_one (es_frz 2 (es_ret (ev_cut (ev_var 2) (ep_none) (ep_some (ev_var 1)))))))))
/-! ### _law_drop : 0 tree, 1 own, 2 name -/
abbrev N__law_drop : List Str := ["tree", "own", "name"]
theorem sc__law_drop : FnScope N__law_drop ["tree"] (defScope (topS 40)) := ⟨rfl, rfl, rfl, by decide +kernel, rfl, by decide +kernel, by decide +kernel⟩
def S__law_drop (self : List D → R D) : ES := sCons (sIf (tV (e2 dEq (e2 dIx (eVar 0) (eInt 0)) (eStr "end"))) (sRet (eTup (eCons (eVar 0) (eCons (e2 dIx (eVar 0) (eInt 1)) (eNil))))) (sNil)) (sCons (sAsg (eCall self (eCons (eIte (tV (e2 dEq (e2 dIx (eVar 0) (eInt 1)) (eStr "L"))) (e2 dIx (eVar 0) (eInt 2)) (e2 dIx (eVar 0) (eInt 3))) (eNil))) (aTup (aCons (aName 1) (aCons (aName 2) (aNil))))) (sRet (eTup (eCons (eIte (tV (e2 dEq (e2 dIx (eVar 0) (eInt 1)) (eStr "L"))) (eTup (eCons (eStr "switch") (eCons (eStr "R") (eCons (eVar 1) (eCons (e2 dIx (eVar 0) (eInt 3)) (eNil)))))) (eTup (eCons (eStr "switch") (eCons (eStr "L") (eCons (e2 dIx (eVar 0) (eInt 2)) (eCons (eVar 1) (eNil))))))) (eCons (eVar 2) (eNil))))))
def F__law_drop : Nat → List D → R D
  | 0 => fun _ => .stuck
  | n + 1 => runD 3 (S__law_drop (F__law_drop n))
theorem ok__law_drop (T : Txt P w K mg) : ∀ n : Nat, FnOk P w K mg base (L2.CX P w) (0 + n) T.f__law_drop T.d__law_drop ["tree"] (spF w K mg 1 (F__law_drop n))
  | 0 => fn_stuck
  | n + 1 => by
    have ih := ok__law_drop T n
    refine fn_ok (N := N__law_drop) (S := S__law_drop (F__law_drop n)) T.F__law_drop sc__law_drop fun cdv A outer s H E hr => ?_
    have tk : Takes (cxOf (L2.CX P w) P w K mg base N__law_drop "_law_drop" (defScope (topS 40)) T.f__law_drop cdv A outer s H E) (WD E) := tk_def
    have po : PassesOwn (model P w) (A.deeper (envOfC "_law_drop" (defScope (topS 40)) s.heap.objs.size T.f__law_drop cdv)) (envOfC "_law_drop" (defScope (topS 40)) s.heap.objs.size T.f__law_drop cdv) (cxOf (L2.CX P w) P w K mg base N__law_drop "_law_drop" (defScope (topS 40)) T.f__law_drop cdv A outer s H E).xe := po_def
    exact ess_cons (es_if (et_eq (hu_room hr) (ev_ix (ev_var 0) (ev_int)) (ev_str))
      (ess_one (es_ret (ev_tup (ea_cons (ev_var 0) (ea_cons (ev_ix (ev_var 0) (ev_int)) (ea_nil))))))
      (ess_nil))
      (ess_cons (es_asg (ev_call ih rfl tk (hr.mono (by show _ ≤ 0 + n; omega)) T.m__law_drop T.F__law_drop.kp T.b__law_drop (ea_cons (ev_ite (et_eq (hu_room hr) (ev_ix (ev_var 0) (ev_int)) (ev_str)) (ev_ix (ev_var 0) (ev_int)) (ev_ix (ev_var 0) (ev_int))) (ea_nil))) (eg_tup rfl (egs_cons (eg_name 1 sc__law_drop.nd) (egs_cons (eg_name 2 sc__law_drop.nd) (egs_nil)))))
      (ess_one (es_ret (ev_tup (ea_cons (ev_ite (et_eq (hu_room hr) (ev_ix (ev_var 0) (ev_int)) (ev_str)) (ev_tup (ea_cons (ev_str) (ea_cons (ev_str) (ea_cons (ev_var 1) (ea_cons (ev_ix (ev_var 0) (ev_int)) (ea_nil)))))) (ev_tup (ea_cons (ev_str) (ea_cons (ev_str) (ea_cons (ev_ix (ev_var 0) (ev_int)) (ea_cons (ev_var 1) (ea_nil))))))) (ea_cons (ev_var 2) (ea_nil)))))))
/-! ### _law_names : 0 tree, 1 many, 2 found, 3 k, 4 name -/
abbrev N__law_names : List Str := ["tree", "many", "found", "k", "name"]
theorem sc__law_names : FnScope N__law_names ["tree", "many"] (defScope (topS 41)) := ⟨rfl, rfl, rfl, by decide +kernel, rfl, by decide +kernel, by decide +kernel⟩
def B__law_names_1 : ES := sCons (sAsg (eCall (F__law_drop 16) (eCons (eVar 0) (eNil))) (aTup (aCons (aName 0) (aCons (aName 4) (aNil))))) (sSet 2 (mF (e2 dAdd (eVar 2) (eTup (eCons (eVar 4) (eNil))))))
def S__law_names : ES := sCons (sSet 2 (mF (eTup (eNil)))) (sCons (sFor (iRg1 (eVar 1)) (aName 3) (B__law_names_1) [1, 3, 4]) (sRet (eVar 2)))
def F__law_names := runD 5 S__law_names
theorem ok__law_names (T : Txt P w K mg) : FnOk P w K mg base (L2.CX P w) 17 T.f__law_names T.d__law_names ["tree", "many"] (spF w K mg 2 F__law_names) := by
  refine fn_ok (N := N__law_names) (S := S__law_names) T.F__law_names sc__law_names fun cdv A outer s H E hr => ?_
  have tk : Takes (cxOf (L2.CX P w) P w K mg base N__law_names "_law_names" (defScope (topS 41)) T.f__law_names cdv A outer s H E) (WD E) := tk_def
  have po : PassesOwn (model P w) (A.deeper (envOfC "_law_names" (defScope (topS 41)) s.heap.objs.size T.f__law_names cdv)) (envOfC "_law_names" (defScope (topS 41)) s.heap.objs.size T.f__law_names cdv) (cxOf (L2.CX P w) P w K mg base N__law_names "_law_names" (defScope (topS 41)) T.f__law_names cdv A outer s H E).xe := po_def
  exact ess_cons (es_set 2 (Ev.em (ev_tup (ea_nil))) sc__law_names.nd)
      (ess_cons (es_for [1, 3, 4] po rfl (ei_range1 T.z_range (ev_var 1)) (eg_name 3 sc__law_names.nd)
      (ess_cons (es_asg (ev_call (ok__law_drop T 16) rfl tk (hr.mono (by decide)) T.m__law_drop T.F__law_drop.kp T.b__law_drop (ea_cons (ev_var 0) (ea_nil))) (eg_tup rfl (egs_cons (eg_name 0 sc__law_names.nd) (egs_cons (eg_name 4 sc__law_names.nd) (egs_nil)))))
      (ess_one (es_set 2 (Ev.em (ev_add (ev_var 2) (ev_tup (ea_cons (ev_var 4) (ea_nil))))) sc__law_names.nd))))
      (ess_one (es_ret (ev_var 2))))
/-! ### _law_rows : 0 size, 1 many, 2 kinds, 3 found, 4 left, 5 one, 6 firsts, 7 seconds, 8 name, 9 two, 10 k -/
abbrev N__law_rows : List Str := ["size", "many", "kinds", "found", "left", "one", "firsts", "seconds", "name", "two", "k"]
theorem sc__law_rows : FnScope N__law_rows ["size", "many", "kinds"] (defScope (topS 42)) := ⟨rfl, rfl, rfl, by decide +kernel, rfl, by decide +kernel, by decide +kernel⟩
def B__law_rows_1 (self : List D → R D) : ES := sSet 3 (mF (e2 dAdd (eVar 3) (eComp (iSeq (eSortSet (eVar 7))) (aName 9) (tTrue) (eA dTuple (eCons (eComp (iRg1 (eVar 1)) (aName 10) (tTrue) (eIte (tV (e2 dEq (e2 dMod (eVar 10) (eInt 2)) (eInt 0))) (e2 dIx (eVar 5) (e2 dFdiv (eVar 10) (eInt 2))) (e2 dIx (eVar 9) (e2 dFdiv (eVar 10) (eInt 2)))) [10]) (eNil))) [9])))
def B__law_rows_2 (self : List D → R D) : ES := sCons (sPar 6 7 (mF (eCall self (eCons (eVar 4) (eCons (e2 dFdiv (e2 dAdd (eVar 1) (eInt 1)) (eInt 2)) (eCons (eVar 2) (eNil)))))) (mF (eCall self (eCons (e2 dSub (e2 dSub (eVar 0) (eInt 1)) (eVar 4)) (eCons (e2 dFdiv (eVar 1) (eInt 2)) (eCons (eVar 2) (eNil))))))) (sFor (iSeq (eSortSet (eVar 6))) (aName 5) ((B__law_rows_1 self)) [4, 5, 6, 8, 9, 10])
def S__law_rows (self : List D → R D) : ES := sCons (sIf (tV (e2 dEq (eVar 1) (eInt 0))) (sRet (eLst (eCons (eTup (eNil)) (eNil)))) (sNil)) (sCons (sIf (tV (e2 dEq (eVar 0) (eInt 0))) (sRet (eComp (iSeq (eVar 2)) (aName 8) (tTrue) (e2 dMulT (eTup (eCons (eVar 8) (eNil))) (eVar 1)) [8])) (sNil)) (sCons (sSet 3 (mF (eLst (eNil)))) (sCons (sFor (iRg1 (eVar 0)) (aName 4) ((B__law_rows_2 self)) [4, 5, 6, 7, 8, 9, 10]) (sRet (eSortSet (eVar 3))))))
def F__law_rows : Nat → List D → R D
  | 0 => fun _ => .stuck
  | n + 1 => runD 11 (S__law_rows (F__law_rows n))
theorem ok__law_rows (T : Txt P w K mg) : ∀ n : Nat, FnOk P w K mg base (L2.CX P w) (0 + n) T.f__law_rows T.d__law_rows ["size", "many", "kinds"] (spF w K mg 3 (F__law_rows n))
  | 0 => fn_stuck
  | n + 1 => by
    have ih := ok__law_rows T n
    refine fn_ok (N := N__law_rows) (S := S__law_rows (F__law_rows n)) T.F__law_rows sc__law_rows fun cdv A outer s H E hr => ?_
    have tk : Takes (cxOf (L2.CX P w) P w K mg base N__law_rows "_law_rows" (defScope (topS 42)) T.f__law_rows cdv A outer s H E) (WD E) := tk_def
    have po : PassesOwn (model P w) (A.deeper (envOfC "_law_rows" (defScope (topS 42)) s.heap.objs.size T.f__law_rows cdv)) (envOfC "_law_rows" (defScope (topS 42)) s.heap.objs.size T.f__law_rows cdv) (cxOf (L2.CX P w) P w K mg base N__law_rows "_law_rows" (defScope (topS 42)) T.f__law_rows cdv A outer s H E).xe := po_def
    exact ess_cons (es_if (et_eq (hu_room hr) (ev_var 1) (ev_int))
      (ess_one (es_ret ((eo_lst (ea_cons (ev_tup (ea_nil)) (ea_nil))).ev)))
      (ess_nil))
      (ess_cons (es_if (et_eq (hu_room hr) (ev_var 0) (ev_int))
      (ess_one (es_ret ((eo_comp (own := [("name", 8)]) rfl sc__law_rows.nd (ei_seq (ev_var 2)) (blkOk_by (N := N__law_rows) (sc := defScope (topS 42)) (by decide +kernel)) (fun _ _ _ _ _ => eg_name 8 sc__law_rows.nd) (by decide) (fun _ _ _ _ _ => ets_nil) (fun _ _ _ _ _ => ev_mulT (ev_tup (ea_cons (ev_var 8) (ea_nil))) (ev_var 1))).ev)))
      (ess_nil))
      (ess_cons (es_set 3 (Ev.em ((eo_lst (ea_nil)).ev)) sc__law_rows.nd)
      (ess_cons (es_for [4, 5, 6, 7, 8, 9, 10] po rfl (ei_range1 T.z_range (ev_var 0)) (eg_name 4 sc__law_rows.nd)
      (ess_cons (es_par 6 7 rfl sc__law_rows.nd (Ev.em (ev_call ih rfl tk (hr.mono (by show _ ≤ 0 + n; omega)) T.m__law_rows T.F__law_rows.kp T.b__law_rows (ea_cons (ev_var 4) (ea_cons (ev_fdiv (ev_add (ev_var 1) (ev_int)) (ev_int)) (ea_cons (ev_var 2) (ea_nil)))))) (Ev.em (ev_call ih rfl tk (hr.mono (by show _ ≤ 0 + n; omega)) T.m__law_rows T.F__law_rows.kp T.b__law_rows (ea_cons (ev_sub (ev_sub (ev_var 0) (ev_int)) (ev_var 4)) (ea_cons (ev_fdiv (ev_var 1) (ev_int)) (ea_cons (ev_var 2) (ea_nil)))))))
      (ess_one (es_for [4, 5, 6, 8, 9, 10] po rfl (ei_seq ((eo_sortSet (hu_room hr) rfl T.z_sorted T.z_set (ev_var 6)).ev)) (eg_name 5 sc__law_rows.nd)
      (ess_one (es_set 3 (Ev.em (ev_add (ev_var 3) ((eo_comp (own := [("two", 9)]) rfl sc__law_rows.nd (ei_seq ((eo_sortSet (hu_room hr) rfl T.z_sorted T.z_set (ev_var 7)).ev)) (blkOk_by (N := N__law_rows) (sc := defScope (topS 42)) (by decide +kernel)) (fun _ _ _ _ _ => eg_name 9 sc__law_rows.nd) (by decide) (fun _ _ _ _ _ => ets_nil) (fun _ _ _ _ _ => ev_tuple T.z_tuple (ea_cons ((eo_comp (own := [("k", 10)]) rfl sc__law_rows.nd (ei_range1 T.z_range (ev_var 1)) (blkOk_by (by kernel_rfl)) (fun _ _ _ _ _ => eg_name 10 sc__law_rows.nd) (by decide) (fun _ _ _ _ _ => ets_nil) (fun _ _ _ _ _ => ev_ite (et_eq (hu_room hr) (ev_mod (ev_var 10) (ev_int)) (ev_int)) (ev_ix (ev_var 5) (ev_fdiv (ev_var 10) (ev_int))) (ev_ix (ev_var 9) (ev_fdiv (ev_var 10) (ev_int))))).ev) (ea_nil)))).ev))) sc__law_rows.nd))))))
      (ess_one (es_ret ((eo_sortSet (hu_room hr) rfl T.z_sorted T.z_set (ev_var 3)).ev))))))
/-! ### law : 0 script, 1 draws, 2 turn, 3 tree, 4 kinds, 5 names, 6 short, 7 told, 8 twice, 9 size, 10 k -/
abbrev N_law : List Str := ["script", "draws", "turn", "tree", "kinds", "names", "short", "told", "twice", "size", "k"]
theorem sc_law : FnScope N_law ["script"] (defScope (topS 43)) := ⟨rfl, rfl, rfl, by decide +kernel, rfl, by decide +kernel, by decide +kernel⟩
def B_law_1 : ES := sSet 9 (mF (e2 dAdd (eVar 9) (eInt 1)))
def T_law_1 : ET := tV (e2 dNotIn (eVar 5) (eCall (F__law_rows 16) (eCons (eVar 9) (eCons (eA dLen (eCons (eVar 5) (eNil))) (eCons (eVar 4) (eNil))))))
def B_law_2 : ES := sCons (sSet 4 (mF (eCut (eLst (eCons (eStr "a") (eCons (eStr "b") (eCons (eStr "cc") (eNil))))) (pNone) (pSome (e2 dIx (eLst (eCons (eInt 2) (eCons (eInt 2) (eCons (eInt 3) (eCons (eInt 2) (eCons (eInt 3) (eCons (eInt 1) (eNil)))))))) (eVar 2)))))) (sCons (sSet 5 (mF (eA dTuple (eCons (eComp (iRg1 (e2 dAdd (eInt 1) (e2 dMod (eA dInt (eCons (e2 dIx (eVar 1) (e2 dAdd (eInt 50) (eVar 2))) (eNil))) (e2 dIx (eLst (eCons (eInt 6) (eCons (eInt 5) (eCons (eInt 4) (eCons (eInt 9) (eCons (eInt 8) (eCons (eInt 7) (eNil)))))))) (eVar 2))))) (aName 10) (tTrue) (e2 dIx (eVar 4) (e2 dMod (eA dInt (eCons (e2 dIx (eVar 1) (e2 dAdd (e2 dMul (eInt 9) (eVar 2)) (eVar 10))) (eNil))) (eA dLen (eCons (eVar 4) (eNil))))) [10]) (eNil))))) (sCons (sSet 3 (mF (eCall F_tree_for (eCons (eVar 5) (eNil))))) (sCons (sIf (tOrB (tV (e2 dNe (eCall F__law_names (eCons (eVar 3) (eCons (eA dLen (eCons (eVar 5) (eNil))) (eNil)))) (eVar 5))) (tOrB (tV (e2 dNe (eCall F_tree_ends (eCons (eVar 3) (eCons (eA dLen (eCons (eVar 5) (eNil))) (eNil)))) (eVar 5))) (tV (e2 dNe (eCall F_tree_size (eCons (eVar 3) (eNil))) (eCall F_switches_for (eCons (eVar 5) (eNil))))))) (sRet (eBool false)) (sNil)) (sCons (sIf (tV (e2 dLt (eA dLen (eCons (eVar 5) (eNil))) (eInt 7))) (sCons (sSet 9 (mF (eInt 0))) (sCons (sWhile (T_law_1) (B_law_1) [0, 2, 6, 7, 8, 10]) (sIf (tV (e2 dNe (eCall F_switches_for (eCons (eVar 5) (eNil))) (eVar 9))) (sRet (eBool false)) (sNil)))) (sNil)) (sCons (sSet 6 (mF (e2 dIx (eComp (iRg2 (eInt 1) (e2 dAdd (eA dLen (eCons (eVar 5) (eNil))) (eInt 1))) (aName 9) (tAndB (tV (eA dAll (eCons (eComp (iRg2 (eVar 9) (eA dLen (eCons (eVar 5) (eNil)))) (aName 10) (tTrue) (e2 dEq (e2 dIx (eVar 5) (eVar 10)) (e2 dIx (eVar 5) (e2 dSub (eVar 10) (eVar 9)))) [10]) (eNil)))) (tV (e2 dEq (e2 dMod (eA dInt (eCons (eA dLen (eCons (eVar 5) (eNil))) (eNil))) (eVar 9)) (eInt 0)))) (eVar 9) [9]) (eInt 0)))) (sCons (sSet 7 (mF (eCall F_tree_for_ever (eCons (eVar 5) (eNil))))) (sCons (sIf (tV (e2 dNe (e1 dNotN (eVar 7)) (e2 dIn (eVar 6) (eTup (eCons (eInt 1) (eCons (eInt 2) (eCons (eInt 4) (eCons (eInt 8) (eNil))))))))) (sRet (eBool false)) (sNil)) (sCons (sIf (tAndB (tV (e1 dNotN (eVar 7))) (tOrB (tV (e2 dNe (eCall F__law_names (eCons (eVar 7) (eCons (eInt 40) (eNil)))) (eCut (e2 dMul (eVar 5) (eInt 40)) (pNone) (pSome (eInt 40))))) (tOrB (tV (e2 dNe (eCall F_tree_size (eCons (eVar 7) (eNil))) (eCall F_switches_for (eCons (eCut (eVar 5) (pNone) (pSome (eVar 6))) (eNil))))) (tV (e2 dNe (eCall F_tree_again (eCons (eVar 7) (eNil))) (eVar 6)))))) (sRet (eBool false)) (sNil)) (sCons (sSet 8 (mF (eCall F_tree_for_ever (eCons (e2 dMul (eVar 5) (eInt 2)) (eNil))))) (sIf (tOrB (tV (e2 dNe (eVar 8) (eVar 7))) (tV (e2 dNe (eCall F_tree_for (eCons (e2 dAdd (eVar 5) (eCut (eVar 5) (pNone) (pSome (eInt 0)))) (eNil))) (eVar 3)))) (sRet (eBool false)) (sNil)))))))))))
def S_law : ES := sCons (sSet 1 (mF (eCallS 0 F__law_draws (eCons (eInt 60) (eNil))))) (sCons (sFor (iRg1 (eInt 6)) (aName 2) (B_law_2) [0, 2, 3, 4, 5, 6, 7, 8, 9, 10]) (sCons (sSet 3 (mF (eCall F_tree_for (eCons (eTup (eCons (eStr "a") (eCons (eStr "a") (eCons (eStr "b") (eNil))))) (eNil))))) (sCons (sIf (tOrB (tV (e2 dNe (eVar 3) (eTup (eCons (eStr "switch") (eCons (eStr "L") (eCons (eTup (eCons (eStr "switch") (eCons (eStr "L") (eCons (eTup (eCons (eStr "end") (eCons (eStr "a") (eNil)))) (eCons (eTup (eCons (eStr "end") (eCons (eStr "b") (eNil)))) (eNil)))))) (eCons (eTup (eCons (eStr "end") (eCons (eStr "a") (eNil)))) (eNil)))))))) (tOrB (tV (e2 dNe (eCall F_switches_for (eCons (e2 dMulT (eTup (eCons (eStr "a") (eNil))) (eInt 64)) (eNil))) (eInt 0))) (tV (e1 dNotN (eCall F_tree_for_ever (eCons (eTup (eCons (eStr "a") (eCons (eStr "b") (eCons (eStr "b") (eNil))))) (eNil))))))) (sRet (eBool false)) (sNil)) (sRet (eAnd (e2 dEq (eCall F_tree_for_ever (eCons (e2 dMulT (eTup (eCons (eStr "a") (eCons (eStr "b") (eNil)))) (eInt 3)) (eNil))) (eTup (eCons (eStr "switch") (eCons (eStr "L") (eCons (eTup (eCons (eStr "end") (eCons (eStr "a") (eNil)))) (eCons (eTup (eCons (eStr "end") (eCons (eStr "b") (eNil)))) (eNil))))))) (eAnd (e2 dEq (eCall F_switches_for (eCons (eTup (eCons (eStr "a") (eCons (eStr "b") (eCons (eStr "a") (eCons (eStr "c") (eNil)))))) (eNil))) (eInt 2)) (e2 dEq (eCall F_switches_for (eCons (eA dTuple (eCons (e2 dAdd (e2 dMul (eLst (eCons (eStr "a") (eCons (eStr "b") (eNil)))) (eInt 31)) (eLst (eCons (eStr "b") (eCons (eStr "a") (eNil))))) (eNil))) (eNil))) (eInt 11))))))))
def F_law := runS 11 S_law
theorem ok_law (T : Txt P w K mg) : FnOk P w K mg base (L2.CX P w) 21 T.f_law T.d_law ["script"] (spS w K mg 1 F_law) := by
  refine fn_okS (N := N_law) (S := S_law) T.F_law sc_law fun cdv A outer s H E hr => ?_
  have tk : Takes (cxOf (L2.CX P w) P w K mg base N_law "law" (defScope (topS 43)) T.f_law cdv A outer s H E) (WD E) := tk_def
  have po : PassesOwn (model P w) (A.deeper (envOfC "law" (defScope (topS 43)) s.heap.objs.size T.f_law cdv)) (envOfC "law" (defScope (topS 43)) s.heap.objs.size T.f_law cdv) (cxOf (L2.CX P w) P w K mg base N_law "law" (defScope (topS 43)) T.f_law cdv A outer s H E).xe := po_def
  exact ess_cons (es_set 1 (Ev.em (ev_callS 0 (ok__law_draws T) rfl tk (hr.mono (by decide)) T.m__law_draws T.F__law_draws.kp T.b__law_draws (ea_cons (ev_int) (ea_nil)))) sc_law.nd)
      (ess_cons (es_for [0, 2, 3, 4, 5, 6, 7, 8, 9, 10] po rfl (ei_range1 T.z_range (ev_int)) (eg_name 2 sc_law.nd)
      (ess_cons (es_set 4 (Ev.em (ev_cut ((eo_lst (ea_cons (ev_str) (ea_cons (ev_str) (ea_cons (ev_str) (ea_nil))))).ev) (ep_none) (ep_some (ev_ix ((eo_lst (ea_cons (ev_int) (ea_cons (ev_int) (ea_cons (ev_int) (ea_cons (ev_int) (ea_cons (ev_int) (ea_cons (ev_int) (ea_nil)))))))).ev) (ev_var 2))))) sc_law.nd)
      (ess_cons (es_set 5 (Ev.em (ev_tuple T.z_tuple (ea_cons ((eo_comp (own := [("k", 10)]) rfl sc_law.nd (ei_range1 T.z_range (ev_add (ev_int) (ev_mod (ev_intc T.z_int (ea_cons (ev_ix (ev_var 1) (ev_add (ev_int) (ev_var 2))) (ea_nil))) (ev_ix ((eo_lst (ea_cons (ev_int) (ea_cons (ev_int) (ea_cons (ev_int) (ea_cons (ev_int) (ea_cons (ev_int) (ea_cons (ev_int) (ea_nil)))))))).ev) (ev_var 2))))) (blkOk_by (N := N_law) (sc := defScope (topS 43)) (by decide +kernel)) (fun _ _ _ _ _ => eg_name 10 sc_law.nd) (by decide) (fun _ _ _ _ _ => ets_nil) (fun _ _ _ _ _ => ev_ix (ev_var 4) (ev_mod (ev_intc T.z_int (ea_cons (ev_ix (ev_var 1) (ev_add (ev_mul (ev_int) (ev_var 2)) (ev_var 10))) (ea_nil))) (ev_len T.z_len (ea_cons (ev_var 4) (ea_nil)))))).ev) (ea_nil)))) sc_law.nd)
      (ess_cons (es_set 3 (Ev.em (ev_call (ok_tree_for T) rfl tk (hr.mono (by decide)) T.m_tree_for T.F_tree_for.kp T.b_tree_for (ea_cons (ev_var 5) (ea_nil)))) sc_law.nd)
      (ess_cons (es_if (Ew.et (ew_or (et_ne (hu_room hr) (ev_call (ok__law_names T) rfl tk (hr.mono (by decide)) T.m__law_names T.F__law_names.kp T.b__law_names (ea_cons (ev_var 3) (ea_cons (ev_len T.z_len (ea_cons (ev_var 5) (ea_nil))) (ea_nil)))) (ev_var 5)) (ew_or (et_ne (hu_room hr) (ev_call (ok_tree_ends T) rfl tk (hr.mono (by decide)) T.m_tree_ends T.F_tree_ends.kp T.b_tree_ends (ea_cons (ev_var 3) (ea_cons (ev_len T.z_len (ea_cons (ev_var 5) (ea_nil))) (ea_nil)))) (ev_var 5)) (ew_or1 (et_ne (hu_room hr) (ev_call (ok_tree_size T) rfl tk (hr.mono (by decide)) T.m_tree_size T.F_tree_size.kp T.b_tree_size (ea_cons (ev_var 3) (ea_nil))) (ev_call (ok_switches_for T) rfl tk (hr.mono (by decide)) T.m_switches_for T.F_switches_for.kp T.b_switches_for (ea_cons (ev_var 5) (ea_nil))))))))
      (ess_one (es_ret (ev_bool)))
      (ess_nil))
      (ess_cons (es_if (et_lt (hu_room hr) (ev_len T.z_len (ea_cons (ev_var 5) (ea_nil))) (ev_int))
      (ess_cons (es_set 9 (Ev.em (ev_int)) sc_law.nd)
      (ess_cons (es_while [0, 2, 6, 7, 8, 10] po (et_notIn (hu_room hr) (ev_var 5) (ev_call (ok__law_rows T 16) rfl tk (hr.mono (by decide)) T.m__law_rows T.F__law_rows.kp T.b__law_rows (ea_cons (ev_var 9) (ea_cons (ev_len T.z_len (ea_cons (ev_var 5) (ea_nil))) (ea_cons (ev_var 4) (ea_nil))))))
      (ess_one (es_set 9 (Ev.em (ev_add (ev_var 9) (ev_int))) sc_law.nd)))
      (ess_one (es_if (et_ne (hu_room hr) (ev_call (ok_switches_for T) rfl tk (hr.mono (by decide)) T.m_switches_for T.F_switches_for.kp T.b_switches_for (ea_cons (ev_var 5) (ea_nil))) (ev_var 9))
      (ess_one (es_ret (ev_bool)))
      (ess_nil)))))
      (ess_nil))
      (ess_cons (es_set 6 (Ev.em (ev_ix ((eo_comp (own := [("size", 9)]) rfl sc_law.nd (ei_range2 T.z_range (ev_int) (ev_add (ev_len T.z_len (ea_cons (ev_var 5) (ea_nil))) (ev_int))) (blkOk_by (N := N_law) (sc := defScope (topS 43)) (by decide +kernel)) (fun _ _ _ _ _ => eg_name 9 sc_law.nd) (by decide) (fun _ _ _ _ _ => ets_one (Ew.et (ew_and (et_val (ev_all rfl T.z_all (ea_cons ((eo_comp (own := [("k", 10)]) rfl sc_law.nd (ei_range2 T.z_range (ev_var 9) (ev_len T.z_len (ea_cons (ev_var 5) (ea_nil)))) (blkOk_by (by kernel_rfl)) (fun _ _ _ _ _ => eg_name 10 sc_law.nd) (by decide) (fun _ _ _ _ _ => ets_nil) (fun _ _ _ _ _ => ev_eq (hu_room hr) (ev_ix (ev_var 5) (ev_var 10)) (ev_ix (ev_var 5) (ev_sub (ev_var 10) (ev_var 9))))).ev) (ea_nil)))) (ew_and1 (et_eq (hu_room hr) (ev_mod (ev_intc T.z_int (ea_cons (ev_len T.z_len (ea_cons (ev_var 5) (ea_nil))) (ea_nil))) (ev_var 9)) (ev_int)))))) (fun _ _ _ _ _ => ev_var 9)).ev) (ev_int))) sc_law.nd)
      (ess_cons (es_set 7 (Ev.em (ev_call (ok_tree_for_ever T) rfl tk (hr.mono (by decide)) T.m_tree_for_ever T.F_tree_for_ever.kp T.b_tree_for_ever (ea_cons (ev_var 5) (ea_nil)))) sc_law.nd)
      (ess_cons (es_if (et_ne (hu_room hr) (ev_notN (ev_var 7)) (ev_in (hu_room hr) (ev_var 6) (ev_tup (ea_cons (ev_int) (ea_cons (ev_int) (ea_cons (ev_int) (ea_cons (ev_int) (ea_nil))))))))
      (ess_one (es_ret (ev_bool)))
      (ess_nil))
      (ess_cons (es_if (Ew.et (ew_and (et_notN (ev_var 7)) (ew_and1 (Ew.et (ew_or (et_ne (hu_room hr) (ev_call (ok__law_names T) rfl tk (hr.mono (by decide)) T.m__law_names T.F__law_names.kp T.b__law_names (ea_cons (ev_var 7) (ea_cons (ev_int) (ea_nil)))) (ev_cut (ev_mul (ev_var 5) (ev_int)) (ep_none) (ep_some (ev_int)))) (ew_or (et_ne (hu_room hr) (ev_call (ok_tree_size T) rfl tk (hr.mono (by decide)) T.m_tree_size T.F_tree_size.kp T.b_tree_size (ea_cons (ev_var 7) (ea_nil))) (ev_call (ok_switches_for T) rfl tk (hr.mono (by decide)) T.m_switches_for T.F_switches_for.kp T.b_switches_for (ea_cons (ev_cut (ev_var 5) (ep_none) (ep_some (ev_var 6))) (ea_nil)))) (ew_or1 (et_ne (hu_room hr) (ev_call (ok_tree_again T) rfl tk (hr.mono (by decide)) T.m_tree_again T.F_tree_again.kp T.b_tree_again (ea_cons (ev_var 7) (ea_nil))) (ev_var 6)))))))))
      (ess_one (es_ret (ev_bool)))
      (ess_nil))
      (ess_cons (es_set 8 (Ev.em (ev_call (ok_tree_for_ever T) rfl tk (hr.mono (by decide)) T.m_tree_for_ever T.F_tree_for_ever.kp T.b_tree_for_ever (ea_cons (ev_mul (ev_var 5) (ev_int)) (ea_nil)))) sc_law.nd)
      (ess_one (es_if (Ew.et (ew_or (et_ne (hu_room hr) (ev_var 8) (ev_var 7)) (ew_or1 (et_ne (hu_room hr) (ev_call (ok_tree_for T) rfl tk (hr.mono (by decide)) T.m_tree_for T.F_tree_for.kp T.b_tree_for (ea_cons (ev_add (ev_var 5) (ev_cut (ev_var 5) (ep_none) (ep_some (ev_int)))) (ea_nil))) (ev_var 3)))))
      (ess_one (es_ret (ev_bool)))
      (ess_nil))))))))))))))
      (ess_cons (es_set 3 (Ev.em (ev_call (ok_tree_for T) rfl tk (hr.mono (by decide)) T.m_tree_for T.F_tree_for.kp T.b_tree_for (ea_cons (ev_tup (ea_cons (ev_str) (ea_cons (ev_str) (ea_cons (ev_str) (ea_nil))))) (ea_nil)))) sc_law.nd)
      (ess_cons (es_if (Ew.et (ew_or (et_ne (hu_room hr) (ev_var 3) (ev_tup (ea_cons (ev_str) (ea_cons (ev_str) (ea_cons (ev_tup (ea_cons (ev_str) (ea_cons (ev_str) (ea_cons (ev_tup (ea_cons (ev_str) (ea_cons (ev_str) (ea_nil)))) (ea_cons (ev_tup (ea_cons (ev_str) (ea_cons (ev_str) (ea_nil)))) (ea_nil)))))) (ea_cons (ev_tup (ea_cons (ev_str) (ea_cons (ev_str) (ea_nil)))) (ea_nil))))))) (ew_or (et_ne (hu_room hr) (ev_call (ok_switches_for T) rfl tk (hr.mono (by decide)) T.m_switches_for T.F_switches_for.kp T.b_switches_for (ea_cons (ev_mulT (ev_tup (ea_cons (ev_str) (ea_nil))) (ev_int)) (ea_nil))) (ev_int)) (ew_or1 (et_notN (ev_call (ok_tree_for_ever T) rfl tk (hr.mono (by decide)) T.m_tree_for_ever T.F_tree_for_ever.kp T.b_tree_for_ever (ea_cons (ev_tup (ea_cons (ev_str) (ea_cons (ev_str) (ea_cons (ev_str) (ea_nil))))) (ea_nil))))))))
      (ess_one (es_ret (ev_bool)))
      (ess_nil))
      (ess_one (es_ret (ev_and (ev_eq (hu_room hr) (ev_call (ok_tree_for_ever T) rfl tk (hr.mono (by decide)) T.m_tree_for_ever T.F_tree_for_ever.kp T.b_tree_for_ever (ea_cons (ev_mulT (ev_tup (ea_cons (ev_str) (ea_cons (ev_str) (ea_nil)))) (ev_int)) (ea_nil))) (ev_tup (ea_cons (ev_str) (ea_cons (ev_str) (ea_cons (ev_tup (ea_cons (ev_str) (ea_cons (ev_str) (ea_nil)))) (ea_cons (ev_tup (ea_cons (ev_str) (ea_cons (ev_str) (ea_nil)))) (ea_nil))))))) (ev_and (ev_eq (hu_room hr) (ev_call (ok_switches_for T) rfl tk (hr.mono (by decide)) T.m_switches_for T.F_switches_for.kp T.b_switches_for (ea_cons (ev_tup (ea_cons (ev_str) (ea_cons (ev_str) (ea_cons (ev_str) (ea_cons (ev_str) (ea_nil)))))) (ea_nil))) (ev_int)) (ev_one (ev_eq (hu_room hr) (ev_call (ok_switches_for T) rfl tk (hr.mono (by decide)) T.m_switches_for T.F_switches_for.kp T.b_switches_for (ea_cons (ev_tuple T.z_tuple (ea_cons (ev_add (ev_mul ((eo_lst (ea_cons (ev_str) (ea_cons (ev_str) (ea_nil)))).ev) (ev_int)) ((eo_lst (ea_cons (ev_str) (ea_cons (ev_str) (ea_nil)))).ev)) (ea_nil))) (ea_nil))) (ev_int))))))))))
end
theorem all_mk {P : Program} {w : World} {K : PySem.W.Frag} {h : Heap} {mg : Str → Option Value} {fa : Addr} (X : K.In h) (G : h.Ns mainGlobals mg) (hfa : mg "law" = some (.ref fa))
    {f0 : Addr} {od0 an0 : Option Addr} {sl0 : Array (Option Value)} {oc0 kV0 dc0 pm0 cd0 ct0 : Value}
    {f1 : Addr} {od1 an1 : Option Addr} {sl1 : Array (Option Value)} {oc1 kV1 dc1 pm1 cd1 ct1 : Value}
    {f2 : Addr} {od2 an2 : Option Addr} {sl2 : Array (Option Value)} {oc2 kV2 dc2 pm2 cd2 ct2 : Value}
    {f3 : Addr} {od3 an3 : Option Addr} {sl3 : Array (Option Value)} {oc3 kV3 dc3 pm3 cd3 ct3 : Value}
    {f4 : Addr} {od4 an4 : Option Addr} {sl4 : Array (Option Value)} {oc4 kV4 dc4 pm4 cd4 ct4 : Value}
    {f5 : Addr} {od5 an5 : Option Addr} {sl5 : Array (Option Value)} {oc5 kV5 dc5 pm5 cd5 ct5 : Value}
    {f6 : Addr} {od6 an6 : Option Addr} {sl6 : Array (Option Value)} {oc6 kV6 dc6 pm6 cd6 ct6 : Value}
    {f7 : Addr} {od7 an7 : Option Addr} {sl7 : Array (Option Value)} {oc7 kV7 dc7 pm7 cd7 ct7 : Value}
    {f8 : Addr} {od8 an8 : Option Addr} {sl8 : Array (Option Value)} {oc8 kV8 dc8 pm8 cd8 ct8 : Value}
    {f9 : Addr} {od9 an9 : Option Addr} {sl9 : Array (Option Value)} {oc9 kV9 dc9 pm9 cd9 ct9 : Value}
    {f10 : Addr} {od10 an10 : Option Addr} {sl10 : Array (Option Value)} {oc10 kV10 dc10 pm10 cd10 ct10 : Value}
    {f11 : Addr} {od11 an11 : Option Addr} {sl11 : Array (Option Value)} {oc11 kV11 dc11 pm11 cd11 ct11 : Value}
    {f12 : Addr} {od12 an12 : Option Addr} {sl12 : Array (Option Value)} {oc12 kV12 dc12 pm12 cd12 ct12 : Value}
    {f13 : Addr} {od13 an13 : Option Addr} {sl13 : Array (Option Value)} {oc13 kV13 dc13 pm13 cd13 ct13 : Value}
    {f14 : Addr} {od14 an14 : Option Addr} {sl14 : Array (Option Value)} {oc14 kV14 dc14 pm14 cd14 ct14 : Value}
    {f15 : Addr} {od15 an15 : Option Addr} {sl15 : Array (Option Value)} {oc15 kV15 dc15 pm15 cd15 ct15 : Value}
    {f16 : Addr} {od16 an16 : Option Addr} {sl16 : Array (Option Value)} {oc16 kV16 dc16 pm16 cd16 ct16 : Value}
    {f17 : Addr} {od17 an17 : Option Addr} {sl17 : Array (Option Value)} {oc17 kV17 dc17 pm17 cd17 ct17 : Value}
    {f18 : Addr} {od18 an18 : Option Addr} {sl18 : Array (Option Value)} {oc18 kV18 dc18 pm18 cd18 ct18 : Value}
    {f19 : Addr} {od19 an19 : Option Addr} {sl19 : Array (Option Value)} {oc19 kV19 dc19 pm19 cd19 ct19 : Value}
    {f20 : Addr} {od20 an20 : Option Addr} {sl20 : Array (Option Value)} {oc20 kV20 dc20 pm20 cd20 ct20 : Value}
    {f21 : Addr} {od21 an21 : Option Addr} {sl21 : Array (Option Value)} {oc21 kV21 dc21 pm21 cd21 ct21 : Value}
    {f22 : Addr} {od22 an22 : Option Addr} {sl22 : Array (Option Value)} {oc22 kV22 dc22 pm22 cd22 ct22 : Value}
    {f23 : Addr} {od23 an23 : Option Addr} {sl23 : Array (Option Value)} {oc23 kV23 dc23 pm23 cd23 ct23 : Value}
    {f24 : Addr} {od24 an24 : Option Addr} {sl24 : Array (Option Value)} {oc24 kV24 dc24 pm24 cd24 ct24 : Value}
    {C_BadMany : Addr}
    {C_BadNames : Addr}
    {C_BadTree : Addr}
    {y_LETTERS : Tok}
    {y_END : Tok}
    {y_SWITCH : Tok}
    {t_SIDES : Addr} {o_SIDES : Option Addr} {it_SIDES : Array Value} {n_SIDES : Nat} {sl_SIDES : Array (Option Value)}
    {y_MOST_LETTERS : Tok}
    {y_MOST_DEEP : Tok}
    {y_MOST_THINGS : Tok}
    {y_MOST_MARBLES : Tok}
    {y_MOST_NAMES : Tok}
    (a0 : PySem.W.nsIn K mainGlobals "is_whole" = some (some (.ref f0))) (l0 : K.lookup f0 = some ⟨oc0, od0, .func (PySem.W.fnOf "is_whole" "is_whole" (defArgs (topS 6)) (defBody (topS 6)) (defScope (topS 6)) .none kV0 dc0 pm0 an0 cd0 ct0), sl0⟩) (c0 : PySem.W.codeIn K cd0 "is_whole" = true) (k0 : PySem.W.keepIn K (.ref f0) = true)
    (a1 : PySem.W.nsIn K mainGlobals "is_name" = some (some (.ref f1))) (l1 : K.lookup f1 = some ⟨oc1, od1, .func (PySem.W.fnOf "is_name" "is_name" (defArgs (topS 16)) (defBody (topS 16)) (defScope (topS 16)) .none kV1 dc1 pm1 an1 cd1 ct1), sl1⟩) (c1 : PySem.W.codeIn K cd1 "is_name" = true) (k1 : PySem.W.keepIn K (.ref f1) = true)
    (a2 : PySem.W.nsIn K mainGlobals "_is_within" = some (some (.ref f2))) (l2 : K.lookup f2 = some ⟨oc2, od2, .func (PySem.W.fnOf "_is_within" "_is_within" (defArgs (topS 17)) (defBody (topS 17)) (defScope (topS 17)) .none kV2 dc2 pm2 an2 cd2 ct2), sl2⟩) (c2 : PySem.W.codeIn K cd2 "_is_within" = true) (k2 : PySem.W.keepIn K (.ref f2) = true)
    (a3 : PySem.W.nsIn K mainGlobals "things_in" = some (some (.ref f3))) (l3 : K.lookup f3 = some ⟨oc3, od3, .func (PySem.W.fnOf "things_in" "things_in" (defArgs (topS 18)) (defBody (topS 18)) (defScope (topS 18)) .none kV3 dc3 pm3 an3 cd3 ct3), sl3⟩) (c3 : PySem.W.codeIn K cd3 "things_in" = true) (k3 : PySem.W.keepIn K (.ref f3) = true)
    (a4 : PySem.W.nsIn K mainGlobals "is_tree" = some (some (.ref f4))) (l4 : K.lookup f4 = some ⟨oc4, od4, .func (PySem.W.fnOf "is_tree" "is_tree" (defArgs (topS 19)) (defBody (topS 19)) (defScope (topS 19)) .none kV4 dc4 pm4 an4 cd4 ct4), sl4⟩) (c4 : PySem.W.codeIn K cd4 "is_tree" = true) (k4 : PySem.W.keepIn K (.ref f4) = true)
    (a5 : PySem.W.nsIn K mainGlobals "check_tree" = some (some (.ref f5))) (l5 : K.lookup f5 = some ⟨oc5, od5, .func (PySem.W.fnOf "check_tree" "check_tree" (defArgs (topS 20)) (defBody (topS 20)) (defScope (topS 20)) .none kV5 dc5 pm5 an5 cd5 ct5), sl5⟩) (c5 : PySem.W.codeIn K cd5 "check_tree" = true) (k5 : PySem.W.keepIn K (.ref f5) = true)
    (a6 : PySem.W.nsIn K mainGlobals "_drop" = some (some (.ref f6))) (l6 : K.lookup f6 = some ⟨oc6, od6, .func (PySem.W.fnOf "_drop" "_drop" (defArgs (topS 21)) (defBody (topS 21)) (defScope (topS 21)) .none kV6 dc6 pm6 an6 cd6 ct6), sl6⟩) (c6 : PySem.W.codeIn K cd6 "_drop" = true) (k6 : PySem.W.keepIn K (.ref f6) = true)
    (a7 : PySem.W.nsIn K mainGlobals "tree_ends" = some (some (.ref f7))) (l7 : K.lookup f7 = some ⟨oc7, od7, .func (PySem.W.fnOf "tree_ends" "tree_ends" (defArgs (topS 22)) (defBody (topS 22)) (defScope (topS 22)) .none kV7 dc7 pm7 an7 cd7 ct7), sl7⟩) (c7 : PySem.W.codeIn K cd7 "tree_ends" = true) (k7 : PySem.W.keepIn K (.ref f7) = true)
    (a8 : PySem.W.nsIn K mainGlobals "_size" = some (some (.ref f8))) (l8 : K.lookup f8 = some ⟨oc8, od8, .func (PySem.W.fnOf "_size" "_size" (defArgs (topS 23)) (defBody (topS 23)) (defScope (topS 23)) .none kV8 dc8 pm8 an8 cd8 ct8), sl8⟩) (c8 : PySem.W.codeIn K cd8 "_size" = true) (k8 : PySem.W.keepIn K (.ref f8) = true)
    (a9 : PySem.W.nsIn K mainGlobals "tree_size" = some (some (.ref f9))) (l9 : K.lookup f9 = some ⟨oc9, od9, .func (PySem.W.fnOf "tree_size" "tree_size" (defArgs (topS 24)) (defBody (topS 24)) (defScope (topS 24)) .none kV9 dc9 pm9 an9 cd9 ct9), sl9⟩) (c9 : PySem.W.codeIn K cd9 "tree_size" = true) (k9 : PySem.W.keepIn K (.ref f9) = true)
    (a10 : PySem.W.nsIn K mainGlobals "deep_in" = some (some (.ref f10))) (l10 : K.lookup f10 = some ⟨oc10, od10, .func (PySem.W.fnOf "deep_in" "deep_in" (defArgs (topS 25)) (defBody (topS 25)) (defScope (topS 25)) .none kV10 dc10 pm10 an10 cd10 ct10), sl10⟩) (c10 : PySem.W.codeIn K cd10 "deep_in" = true) (k10 : PySem.W.keepIn K (.ref f10) = true)
    (a11 : PySem.W.nsIn K mainGlobals "again_in" = some (some (.ref f11))) (l11 : K.lookup f11 = some ⟨oc11, od11, .func (PySem.W.fnOf "again_in" "again_in" (defArgs (topS 26)) (defBody (topS 26)) (defScope (topS 26)) .none kV11 dc11 pm11 an11 cd11 ct11), sl11⟩) (c11 : PySem.W.codeIn K cd11 "again_in" = true) (k11 : PySem.W.keepIn K (.ref f11) = true)
    (a12 : PySem.W.nsIn K mainGlobals "tree_again" = some (some (.ref f12))) (l12 : K.lookup f12 = some ⟨oc12, od12, .func (PySem.W.fnOf "tree_again" "tree_again" (defArgs (topS 27)) (defBody (topS 27)) (defScope (topS 27)) .none kV12 dc12 pm12 an12 cd12 ct12), sl12⟩) (c12 : PySem.W.codeIn K cd12 "tree_again" = true) (k12 : PySem.W.keepIn K (.ref f12) = true)
    (a13 : PySem.W.nsIn K mainGlobals "_check_names" = some (some (.ref f13))) (l13 : K.lookup f13 = some ⟨oc13, od13, .func (PySem.W.fnOf "_check_names" "_check_names" (defArgs (topS 30)) (defBody (topS 30)) (defScope (topS 30)) .none kV13 dc13 pm13 an13 cd13 ct13), sl13⟩) (c13 : PySem.W.codeIn K cd13 "_check_names" = true) (k13 : PySem.W.keepIn K (.ref f13) = true)
    (a14 : PySem.W.nsIn K mainGlobals "_built" = some (some (.ref f14))) (l14 : K.lookup f14 = some ⟨oc14, od14, .func (PySem.W.fnOf "_built" "_built" (defArgs (topS 31)) (defBody (topS 31)) (defScope (topS 31)) .none kV14 dc14 pm14 an14 cd14 ct14), sl14⟩) (c14 : PySem.W.codeIn K cd14 "_built" = true) (k14 : PySem.W.keepIn K (.ref f14) = true)
    (a15 : PySem.W.nsIn K mainGlobals "tree_for" = some (some (.ref f15))) (l15 : K.lookup f15 = some ⟨oc15, od15, .func (PySem.W.fnOf "tree_for" "tree_for" (defArgs (topS 32)) (defBody (topS 32)) (defScope (topS 32)) .none kV15 dc15 pm15 an15 cd15 ct15), sl15⟩) (c15 : PySem.W.codeIn K cd15 "tree_for" = true) (k15 : PySem.W.keepIn K (.ref f15) = true)
    (a16 : PySem.W.nsIn K mainGlobals "_needed" = some (some (.ref f16))) (l16 : K.lookup f16 = some ⟨oc16, od16, .func (PySem.W.fnOf "_needed" "_needed" (defArgs (topS 33)) (defBody (topS 33)) (defScope (topS 33)) .none kV16 dc16 pm16 an16 cd16 ct16), sl16⟩) (c16 : PySem.W.codeIn K cd16 "_needed" = true) (k16 : PySem.W.keepIn K (.ref f16) = true)
    (a17 : PySem.W.nsIn K mainGlobals "switches_for" = some (some (.ref f17))) (l17 : K.lookup f17 = some ⟨oc17, od17, .func (PySem.W.fnOf "switches_for" "switches_for" (defArgs (topS 34)) (defBody (topS 34)) (defScope (topS 34)) .none kV17 dc17 pm17 an17 cd17 ct17), sl17⟩) (c17 : PySem.W.codeIn K cd17 "switches_for" = true) (k17 : PySem.W.keepIn K (.ref f17) = true)
    (a18 : PySem.W.nsIn K mainGlobals "_shortest" = some (some (.ref f18))) (l18 : K.lookup f18 = some ⟨oc18, od18, .func (PySem.W.fnOf "_shortest" "_shortest" (defArgs (topS 35)) (defBody (topS 35)) (defScope (topS 35)) .none kV18 dc18 pm18 an18 cd18 ct18), sl18⟩) (c18 : PySem.W.codeIn K cd18 "_shortest" = true) (k18 : PySem.W.keepIn K (.ref f18) = true)
    (a19 : PySem.W.nsIn K mainGlobals "tree_for_ever" = some (some (.ref f19))) (l19 : K.lookup f19 = some ⟨oc19, od19, .func (PySem.W.fnOf "tree_for_ever" "tree_for_ever" (defArgs (topS 36)) (defBody (topS 36)) (defScope (topS 36)) .none kV19 dc19 pm19 an19 cd19 ct19), sl19⟩) (c19 : PySem.W.codeIn K cd19 "tree_for_ever" = true) (k19 : PySem.W.keepIn K (.ref f19) = true)
    (a20 : PySem.W.nsIn K mainGlobals "_law_draws" = some (some (.ref f20))) (l20 : K.lookup f20 = some ⟨oc20, od20, .func (PySem.W.fnOf "_law_draws" "_law_draws" (defArgs (topS 38)) (defBody (topS 38)) (defScope (topS 38)) .none kV20 dc20 pm20 an20 cd20 ct20), sl20⟩) (c20 : PySem.W.codeIn K cd20 "_law_draws" = true) (k20 : PySem.W.keepIn K (.ref f20) = true)
    (a21 : PySem.W.nsIn K mainGlobals "_law_drop" = some (some (.ref f21))) (l21 : K.lookup f21 = some ⟨oc21, od21, .func (PySem.W.fnOf "_law_drop" "_law_drop" (defArgs (topS 40)) (defBody (topS 40)) (defScope (topS 40)) .none kV21 dc21 pm21 an21 cd21 ct21), sl21⟩) (c21 : PySem.W.codeIn K cd21 "_law_drop" = true) (k21 : PySem.W.keepIn K (.ref f21) = true)
    (a22 : PySem.W.nsIn K mainGlobals "_law_names" = some (some (.ref f22))) (l22 : K.lookup f22 = some ⟨oc22, od22, .func (PySem.W.fnOf "_law_names" "_law_names" (defArgs (topS 41)) (defBody (topS 41)) (defScope (topS 41)) .none kV22 dc22 pm22 an22 cd22 ct22), sl22⟩) (c22 : PySem.W.codeIn K cd22 "_law_names" = true) (k22 : PySem.W.keepIn K (.ref f22) = true)
    (a23 : PySem.W.nsIn K mainGlobals "_law_rows" = some (some (.ref f23))) (l23 : K.lookup f23 = some ⟨oc23, od23, .func (PySem.W.fnOf "_law_rows" "_law_rows" (defArgs (topS 42)) (defBody (topS 42)) (defScope (topS 42)) .none kV23 dc23 pm23 an23 cd23 ct23), sl23⟩) (c23 : PySem.W.codeIn K cd23 "_law_rows" = true) (k23 : PySem.W.keepIn K (.ref f23) = true)
    (a24 : PySem.W.nsIn K mainGlobals "law" = some (some (.ref f24))) (l24 : K.lookup f24 = some ⟨oc24, od24, .func (PySem.W.fnOf "law" "law" (defArgs (topS 43)) (defBody (topS 43)) (defScope (topS 43)) .none kV24 dc24 pm24 an24 cd24 ct24), sl24⟩) (c24 : PySem.W.codeIn K cd24 "law" = true) (k24 : PySem.W.keepIn K (.ref f24) = true)
    (aC_BadMany : PySem.W.nsIn K mainGlobals "BadMany" = some (some (.ref C_BadMany))) (xC_BadMany : PySem.W.excIn K C_BadMany [.type "ValueError", .type "Exception", .type "BaseException", .type "object"] "ValueError.__new__" = true) (kC_BadMany : PySem.W.keepIn K (.ref C_BadMany) = true) (bC_BadMany : PySem.W.subIn K (.ref C_BadMany) (.type "BaseException") = some true) (tC_BadMany : PySem.W.typeIn K (.ref C_BadMany) = some (.type "type"))
    (aC_BadNames : PySem.W.nsIn K mainGlobals "BadNames" = some (some (.ref C_BadNames))) (xC_BadNames : PySem.W.excIn K C_BadNames [.type "ValueError", .type "Exception", .type "BaseException", .type "object"] "ValueError.__new__" = true) (kC_BadNames : PySem.W.keepIn K (.ref C_BadNames) = true) (bC_BadNames : PySem.W.subIn K (.ref C_BadNames) (.type "BaseException") = some true) (tC_BadNames : PySem.W.typeIn K (.ref C_BadNames) = some (.type "type"))
    (aC_BadTree : PySem.W.nsIn K mainGlobals "BadTree" = some (some (.ref C_BadTree))) (xC_BadTree : PySem.W.excIn K C_BadTree [.type "ValueError", .type "Exception", .type "BaseException", .type "object"] "ValueError.__new__" = true) (kC_BadTree : PySem.W.keepIn K (.ref C_BadTree) = true) (bC_BadTree : PySem.W.subIn K (.ref C_BadTree) (.type "BaseException") = some true) (tC_BadTree : PySem.W.typeIn K (.ref C_BadTree) = some (.type "type"))
    (z_abs : PySem.W.nsIn K mainGlobals "abs" = some none)
    (z_all : PySem.W.nsIn K mainGlobals "all" = some none)
    (z_bool : PySem.W.nsIn K mainGlobals "bool" = some none)
    (z_int : PySem.W.nsIn K mainGlobals "int" = some none)
    (z_isinstance : PySem.W.nsIn K mainGlobals "isinstance" = some none)
    (z_len : PySem.W.nsIn K mainGlobals "len" = some none)
    (z_max : PySem.W.nsIn K mainGlobals "max" = some none)
    (z_range : PySem.W.nsIn K mainGlobals "range" = some none)
    (z_set : PySem.W.nsIn K mainGlobals "set" = some none)
    (z_sorted : PySem.W.nsIn K mainGlobals "sorted" = some none)
    (z_str : PySem.W.nsIn K mainGlobals "str" = some none)
    (z_tuple : PySem.W.nsIn K mainGlobals "tuple" = some none)
    (g_LETTERS : PySem.W.nsIn K mainGlobals "LETTERS" = some (some (.str "abcdefghijklmnopqrstuvwxyz" y_LETTERS)))
    (g_END : PySem.W.nsIn K mainGlobals "END" = some (some (.str "end" y_END)))
    (g_SWITCH : PySem.W.nsIn K mainGlobals "SWITCH" = some (some (.str "switch" y_SWITCH)))
    (g_SIDES : PySem.W.nsIn K mainGlobals "SIDES" = some (some (.ref t_SIDES))) (h_SIDES : K.lookup t_SIDES = some ⟨.type "tuple", o_SIDES, .seq it_SIDES n_SIDES, sl_SIDES⟩) (z_SIDES : it_SIDES.size ≤ sizeLine) (v_SIDES : Vals [V.str "L", V.str "R"] it_SIDES.toList)
    (g_MOST_LETTERS : PySem.W.nsIn K mainGlobals "MOST_LETTERS" = some (some (.int 8 y_MOST_LETTERS)))
    (g_MOST_DEEP : PySem.W.nsIn K mainGlobals "MOST_DEEP" = some (some (.int 8 y_MOST_DEEP)))
    (g_MOST_THINGS : PySem.W.nsIn K mainGlobals "MOST_THINGS" = some (some (.int 200 y_MOST_THINGS)))
    (g_MOST_MARBLES : PySem.W.nsIn K mainGlobals "MOST_MARBLES" = some (some (.int 1000 y_MOST_MARBLES)))
    (g_MOST_NAMES : PySem.W.nsIn K mainGlobals "MOST_NAMES" = some (some (.int 64 y_MOST_NAMES))) :
    ∃ T : Txt P w K mg, T.f_law = fa ∧ ∀ (s : Shared) (v : Value), BindsTo s T.d_law ⟨[v], []⟩ [("script", v)] := by
  have e := hfa.symm.trans (PySem.W.mg_of X G a24)
  cases e
  exact ⟨{ f_is_whole := f0, d_is_whole := _, m_is_whole := PySem.W.mg_of X G a0, F_is_whole := fun_mk (st := topS 6) l0 c0 k0, b_is_whole := (fun_mk (st := topS 6) l0 c0 k0).binds (ps := ["value", "least", "most"]) (fun _ _ _ _ _ _ us hl => match us, hl with | [_, _, _], _ => rfl), f_is_name := f1, d_is_name := _, m_is_name := PySem.W.mg_of X G a1, F_is_name := fun_mk (st := topS 16) l1 c1 k1, b_is_name := (fun_mk (st := topS 16) l1 c1 k1).binds (ps := ["value"]) (fun _ _ _ _ _ _ us hl => match us, hl with | [_], _ => rfl), f__is_within := f2, d__is_within := _, m__is_within := PySem.W.mg_of X G a2, F__is_within := fun_mk (st := topS 17) l2 c2 k2, b__is_within := (fun_mk (st := topS 17) l2 c2 k2).binds (ps := ["value", "room"]) (fun _ _ _ _ _ _ us hl => match us, hl with | [_, _], _ => rfl), f_things_in := f3, d_things_in := _, m_things_in := PySem.W.mg_of X G a3, F_things_in := fun_mk (st := topS 18) l3 c3 k3, b_things_in := (fun_mk (st := topS 18) l3 c3 k3).binds (ps := ["tree"]) (fun _ _ _ _ _ _ us hl => match us, hl with | [_], _ => rfl), f_is_tree := f4, d_is_tree := _, m_is_tree := PySem.W.mg_of X G a4, F_is_tree := fun_mk (st := topS 19) l4 c4 k4, b_is_tree := (fun_mk (st := topS 19) l4 c4 k4).binds (ps := ["value"]) (fun _ _ _ _ _ _ us hl => match us, hl with | [_], _ => rfl), f_check_tree := f5, d_check_tree := _, m_check_tree := PySem.W.mg_of X G a5, F_check_tree := fun_mk (st := topS 20) l5 c5 k5, b_check_tree := (fun_mk (st := topS 20) l5 c5 k5).binds (ps := ["tree"]) (fun _ _ _ _ _ _ us hl => match us, hl with | [_], _ => rfl), f__drop := f6, d__drop := _, m__drop := PySem.W.mg_of X G a6, F__drop := fun_mk (st := topS 21) l6 c6 k6, b__drop := (fun_mk (st := topS 21) l6 c6 k6).binds (ps := ["tree"]) (fun _ _ _ _ _ _ us hl => match us, hl with | [_], _ => rfl), f_tree_ends := f7, d_tree_ends := _, m_tree_ends := PySem.W.mg_of X G a7, F_tree_ends := fun_mk (st := topS 22) l7 c7 k7, b_tree_ends := (fun_mk (st := topS 22) l7 c7 k7).binds (ps := ["tree", "many"]) (fun _ _ _ _ _ _ us hl => match us, hl with | [_, _], _ => rfl), f__size := f8, d__size := _, m__size := PySem.W.mg_of X G a8, F__size := fun_mk (st := topS 23) l8 c8 k8, b__size := (fun_mk (st := topS 23) l8 c8 k8).binds (ps := ["tree"]) (fun _ _ _ _ _ _ us hl => match us, hl with | [_], _ => rfl), f_tree_size := f9, d_tree_size := _, m_tree_size := PySem.W.mg_of X G a9, F_tree_size := fun_mk (st := topS 24) l9 c9 k9, b_tree_size := (fun_mk (st := topS 24) l9 c9 k9).binds (ps := ["tree"]) (fun _ _ _ _ _ _ us hl => match us, hl with | [_], _ => rfl), f_deep_in := f10, d_deep_in := _, m_deep_in := PySem.W.mg_of X G a10, F_deep_in := fun_mk (st := topS 25) l10 c10 k10, b_deep_in := (fun_mk (st := topS 25) l10 c10 k10).binds (ps := ["tree"]) (fun _ _ _ _ _ _ us hl => match us, hl with | [_], _ => rfl), f_again_in := f11, d_again_in := _, m_again_in := PySem.W.mg_of X G a11, F_again_in := fun_mk (st := topS 26) l11 c11 k11, b_again_in := (fun_mk (st := topS 26) l11 c11 k11).binds (ps := ["tree"]) (fun _ _ _ _ _ _ us hl => match us, hl with | [_], _ => rfl), f_tree_again := f12, d_tree_again := _, m_tree_again := PySem.W.mg_of X G a12, F_tree_again := fun_mk (st := topS 27) l12 c12 k12, b_tree_again := (fun_mk (st := topS 27) l12 c12 k12).binds (ps := ["tree"]) (fun _ _ _ _ _ _ us hl => match us, hl with | [_], _ => rfl), f__check_names := f13, d__check_names := _, m__check_names := PySem.W.mg_of X G a13, F__check_names := fun_mk (st := topS 30) l13 c13 k13, b__check_names := (fun_mk (st := topS 30) l13 c13 k13).binds (ps := ["names"]) (fun _ _ _ _ _ _ us hl => match us, hl with | [_], _ => rfl), f__built := f14, d__built := _, m__built := PySem.W.mg_of X G a14, F__built := fun_mk (st := topS 31) l14 c14 k14, b__built := (fun_mk (st := topS 31) l14 c14 k14).binds (ps := ["names"]) (fun _ _ _ _ _ _ us hl => match us, hl with | [_], _ => rfl), f_tree_for := f15, d_tree_for := _, m_tree_for := PySem.W.mg_of X G a15, F_tree_for := fun_mk (st := topS 32) l15 c15 k15, b_tree_for := (fun_mk (st := topS 32) l15 c15 k15).binds (ps := ["names"]) (fun _ _ _ _ _ _ us hl => match us, hl with | [_], _ => rfl), f__needed := f16, d__needed := _, m__needed := PySem.W.mg_of X G a16, F__needed := fun_mk (st := topS 33) l16 c16 k16, b__needed := (fun_mk (st := topS 33) l16 c16 k16).binds (ps := ["names"]) (fun _ _ _ _ _ _ us hl => match us, hl with | [_], _ => rfl), f_switches_for := f17, d_switches_for := _, m_switches_for := PySem.W.mg_of X G a17, F_switches_for := fun_mk (st := topS 34) l17 c17 k17, b_switches_for := (fun_mk (st := topS 34) l17 c17 k17).binds (ps := ["names"]) (fun _ _ _ _ _ _ us hl => match us, hl with | [_], _ => rfl), f__shortest := f18, d__shortest := _, m__shortest := PySem.W.mg_of X G a18, F__shortest := fun_mk (st := topS 35) l18 c18 k18, b__shortest := (fun_mk (st := topS 35) l18 c18 k18).binds (ps := ["names"]) (fun _ _ _ _ _ _ us hl => match us, hl with | [_], _ => rfl), f_tree_for_ever := f19, d_tree_for_ever := _, m_tree_for_ever := PySem.W.mg_of X G a19, F_tree_for_ever := fun_mk (st := topS 36) l19 c19 k19, b_tree_for_ever := (fun_mk (st := topS 36) l19 c19 k19).binds (ps := ["names"]) (fun _ _ _ _ _ _ us hl => match us, hl with | [_], _ => rfl), f__law_draws := f20, d__law_draws := _, m__law_draws := PySem.W.mg_of X G a20, F__law_draws := fun_mk (st := topS 38) l20 c20 k20, b__law_draws := (fun_mk (st := topS 38) l20 c20 k20).binds (ps := ["script", "many"]) (fun _ _ _ _ _ _ us hl => match us, hl with | [_, _], _ => rfl), f__law_drop := f21, d__law_drop := _, m__law_drop := PySem.W.mg_of X G a21, F__law_drop := fun_mk (st := topS 40) l21 c21 k21, b__law_drop := (fun_mk (st := topS 40) l21 c21 k21).binds (ps := ["tree"]) (fun _ _ _ _ _ _ us hl => match us, hl with | [_], _ => rfl), f__law_names := f22, d__law_names := _, m__law_names := PySem.W.mg_of X G a22, F__law_names := fun_mk (st := topS 41) l22 c22 k22, b__law_names := (fun_mk (st := topS 41) l22 c22 k22).binds (ps := ["tree", "many"]) (fun _ _ _ _ _ _ us hl => match us, hl with | [_, _], _ => rfl), f__law_rows := f23, d__law_rows := _, m__law_rows := PySem.W.mg_of X G a23, F__law_rows := fun_mk (st := topS 42) l23 c23 k23, b__law_rows := (fun_mk (st := topS 42) l23 c23 k23).binds (ps := ["size", "many", "kinds"]) (fun _ _ _ _ _ _ us hl => match us, hl with | [_, _, _], _ => rfl), f_law := fa, d_law := _, m_law := PySem.W.mg_of X G a24, F_law := fun_mk (st := topS 43) l24 c24 k24, b_law := (fun_mk (st := topS 43) l24 c24 k24).binds (ps := ["script"]) (fun _ _ _ _ _ _ us hl => match us, hl with | [_], _ => rfl), C_BadMany := C_BadMany, g_BadMany := PySem.W.mg_of X G aC_BadMany, x_BadMany := xC_BadMany, k_BadMany := kC_BadMany, b_BadMany := bC_BadMany, t_BadMany := tC_BadMany, C_BadNames := C_BadNames, g_BadNames := PySem.W.mg_of X G aC_BadNames, x_BadNames := xC_BadNames, k_BadNames := kC_BadNames, b_BadNames := bC_BadNames, t_BadNames := tC_BadNames, C_BadTree := C_BadTree, g_BadTree := PySem.W.mg_of X G aC_BadTree, x_BadTree := xC_BadTree, k_BadTree := kC_BadTree, b_BadTree := bC_BadTree, t_BadTree := tC_BadTree, z_abs := PySem.W.mg_none_of X G z_abs, z_all := PySem.W.mg_none_of X G z_all, z_bool := PySem.W.mg_none_of X G z_bool, z_int := PySem.W.mg_none_of X G z_int, z_isinstance := PySem.W.mg_none_of X G z_isinstance, z_len := PySem.W.mg_none_of X G z_len, z_max := PySem.W.mg_none_of X G z_max, z_range := PySem.W.mg_none_of X G z_range, z_set := PySem.W.mg_none_of X G z_set, z_sorted := PySem.W.mg_none_of X G z_sorted, z_str := PySem.W.mg_none_of X G z_str, z_tuple := PySem.W.mg_none_of X G z_tuple, c_LETTERS := ⟨V.str "abcdefghijklmnopqrstuvwxyz", _, PySem.W.mg_of X G g_LETTERS, ⟨_, rfl⟩, .str _⟩, c_END := ⟨V.str "end", _, PySem.W.mg_of X G g_END, ⟨_, rfl⟩, .str _⟩, c_SWITCH := ⟨V.str "switch", _, PySem.W.mg_of X G g_SWITCH, ⟨_, rfl⟩, .str _⟩, c_SIDES := ⟨.ref t_SIDES, _, PySem.W.mg_of X G g_SIDES, rfl, .tup (xs := [V.str "L", V.str "R"]) (gc_tup h_SIDES rfl rfl z_SIDES v_SIDES) (.cons (.str _) (.cons (.str _) .nil))⟩, c_MOST_LETTERS := ⟨V.int 8, _, PySem.W.mg_of X G g_MOST_LETTERS, ⟨_, rfl⟩, .int _⟩, c_MOST_DEEP := ⟨V.int 8, _, PySem.W.mg_of X G g_MOST_DEEP, ⟨_, rfl⟩, .int _⟩, c_MOST_THINGS := ⟨V.int 200, _, PySem.W.mg_of X G g_MOST_THINGS, ⟨_, rfl⟩, .int _⟩, c_MOST_MARBLES := ⟨V.int 1000, _, PySem.W.mg_of X G g_MOST_MARBLES, ⟨_, rfl⟩, .int _⟩, c_MOST_NAMES := ⟨V.int 64, _, PySem.W.mg_of X G g_MOST_NAMES, ⟨_, rfl⟩, .int _⟩ }, rfl, fun s v => .of_eq rfl⟩
end PQ

namespace PQ
open PySem PySem.Spec PyProof.Rows L2

/-! ## the plain law -/
inductive Tr where
  | e (n : Str)
  | s (l : Bool) (a b : Tr)
namespace Tr
def d : Tr → D
  | .e n => .tuple [.str "end", .str n]
  | .s l a b => .tuple [.str "switch", .str (if l = true then "L" else "R"), a.d, b.d]
def deep : Tr → Nat
  | .e _ => 0
  | .s _ a b => 1 + max a.deep b.deep
def things : Tr → Nat
  | .e _ => 1
  | .s _ a b => 1 + a.things + b.things
def names (P : Str → Prop) : Tr → Prop
  | .e n => P n
  | .s _ a b => a.names P ∧ b.names P
/-- where the marble k ends -/
def at' : Tr → Nat → Str
  | .e n, _ => n
  | .s l a b, k => if l = decide (k % 2 = 0) then a.at' (k / 2) else b.at' (k / 2)
/-- a marble falls -/
def drop : Tr → Tr × Str
  | .e n => (.e n, n)
  | .s true a b => (.s false a.drop.1 b, a.drop.2)
  | .s false a b => (.s true a b.drop.1, b.drop.2)
theorem at_drop : ∀ t : Tr, t.drop.2 = t.at' 0 ∧ ∀ k, t.drop.1.at' k = t.at' (k + 1)
  | .e n => ⟨rfl, fun _ => rfl⟩
  | .s true a b => by
    obtain ⟨h1, h2⟩ := at_drop a
    refine ⟨by simpa [drop, at'] using h1, fun k => ?_⟩
    simp only [drop, at', h2]
    by_cases hk : k % 2 = 0
    · have e : (k + 1) % 2 ≠ 0 := by omega
      have e2 : (k + 1) / 2 = k / 2 := by omega
      simp [hk, e, e2]
    · have e : (k + 1) % 2 = 0 := by omega
      have e2 : (k + 1) / 2 = k / 2 + 1 := by omega
      simp [hk, e, e2]
  | .s false a b => by
    obtain ⟨h1, h2⟩ := at_drop b
    refine ⟨by simpa [drop, at'] using h1, fun k => ?_⟩
    simp only [drop, at', h2]
    by_cases hk : k % 2 = 0
    · have e : (k + 1) % 2 ≠ 0 := by omega
      have e2 : (k + 1) / 2 = k / 2 := by omega
      simp [hk, e, e2]
    · have e : (k + 1) % 2 = 0 := by omega
      have e2 : (k + 1) / 2 = k / 2 + 1 := by omega
      simp [hk, e, e2]
theorem deep_drop : ∀ t : Tr, t.drop.1.deep = t.deep
  | .e n => rfl
  | .s true a b => by simp [drop, deep, deep_drop a]
  | .s false a b => by simp [drop, deep, deep_drop b]
theorem period : ∀ (t : Tr) (p k : Nat), t.deep ≤ p → t.at' (k + 2 ^ p) = t.at' k
  | .e n, _, _, _ => rfl
  | .s l a b, 0, k, h => by simp [deep] at h
  | .s l a b, p + 1, k, h => by
    have h : 1 + max a.deep b.deep ≤ p + 1 := h
    have e1 : (k + 2 ^ (p + 1)) % 2 = k % 2 := by rw [Nat.pow_succ]; omega
    have e2 : (k + 2 ^ (p + 1)) / 2 = k / 2 + 2 ^ p := by rw [Nat.pow_succ]; omega
    simp only [at', e1, e2]
    rw [period a p (k / 2) (by omega), period b p (k / 2) (by omega)]
theorem things_le : ∀ t : Tr, t.things + 1 ≤ 2 ^ (t.deep + 1)
  | .e n => by simp [things, deep]
  | .s l a b => by
    have ha := things_le a
    have hb := things_le b
    have h1 : 2 ^ (a.deep + 1) ≤ 2 ^ (max a.deep b.deep + 1) := Nat.pow_le_pow_right (by omega) (by omega)
    have h2 : 2 ^ (b.deep + 1) ≤ 2 ^ (max a.deep b.deep + 1) := Nat.pow_le_pow_right (by omega) (by omega)
    have e : 2 ^ (1 + max a.deep b.deep + 1) = 2 * 2 ^ (max a.deep b.deep + 1) := by
      rw [show 1 + max a.deep b.deep + 1 = (max a.deep b.deep + 1) + 1 by omega, Nat.pow_succ]; omega
    simp only [things, deep, e]
    omega
end Tr
end PQ

namespace PQ
open PySem PySem.Spec PyProof.Rows L2
namespace Tr
def size : Tr → Nat
  | .e _ => 0
  | .s _ a b => 1 + a.size + b.size
/-- all of the first 2^k the same -/
def allSame (k : Nat) (f : Nat → Str) : Bool := (List.range (2 ^ k)).all fun i => f i == f 0
theorem allSame_iff {k : Nat} {f : Nat → Str} : allSame k f = true ↔ ∀ i, i < 2 ^ k → f i = f 0 := by
  unfold allSame
  rw [List.all_eq_true]
  constructor
  · intro h i hi
    exact eq_of_beq (h i (List.mem_range.mpr hi))
  · intro h i hi
    rw [h i (List.mem_range.mp hi)]
    exact beq_self_eq_true _
/-- the least tree -/
def bt : Nat → (Nat → Str) → Tr
  | 0, f => .e (f 0)
  | k + 1, f => if allSame (k + 1) f = true then .e (f 0) else .s true (bt k fun i => f (2 * i)) (bt k fun i => f (2 * i + 1))
theorem bt_deep : ∀ (k : Nat) (f : Nat → Str), (bt k f).deep ≤ k
  | 0, f => Nat.le_refl _
  | k + 1, f => by
    rw [bt]
    split
    · exact Nat.zero_le _
    · have h1 := bt_deep k fun i => f (2 * i)
      have h2 := bt_deep k fun i => f (2 * i + 1)
      show 1 + max _ _ ≤ k + 1
      omega
theorem bt_names (P : Str → Prop) : ∀ (k : Nat) (f : Nat → Str), (∀ i, P (f i)) → (bt k f).names P
  | 0, f, h => h 0
  | k + 1, f, h => by
    rw [bt]
    split
    · exact h 0
    · exact ⟨bt_names P k _ fun i => h _, bt_names P k _ fun i => h _⟩
theorem bt_at : ∀ (k : Nat) (f : Nat → Str) (i : Nat), (bt k f).at' i = f (i % 2 ^ k)
  | 0, f, i => by
    show f 0 = f (i % 1)
    rw [Nat.mod_one]
  | k + 1, f, i => by
    rw [bt]
    have hp : 2 ^ (k + 1) = 2 * 2 ^ k := by rw [Nat.pow_succ]; omega
    split
    · rename_i h
      rw [allSame_iff] at h
      exact (h _ (Nat.mod_lt _ (Nat.two_pow_pos _))).symm
    · have e : i % 2 ^ (k + 1) = 2 * (i / 2 % 2 ^ k) + i % 2 := by rw [hp, Nat.mod_mul]; omega
      rw [e]
      by_cases q : i % 2 = 0
      · simp only [at', q]
        simp
        rw [bt_at k]
      · have q1 : i % 2 = 1 := by omega
        simp only [at', q1]
        simp
        rw [bt_at k]
def lefts : Tr → Prop
  | .e _ => True
  | .s l a b => l = true ∧ a.lefts ∧ b.lefts
theorem bt_lefts : ∀ (k : Nat) (f : Nat → Str), (bt k f).lefts
  | 0, f => trivial
  | k + 1, f => by
    rw [bt]
    split
    · trivial
    · exact ⟨rfl, bt_lefts k _, bt_lefts k _⟩
theorem bt_ext {k : Nat} {f g : Nat → Str} (h : ∀ i, f i = g i) : bt k f = bt k g := by
  have : f = g := funext h
  rw [this]
theorem bt_up : ∀ (k : Nat) (f : Nat → Str), (∀ i, f (i + 2 ^ k) = f i) → bt (k + 1) f = bt k f
  | 0, f, h => by
    have h0 : ∀ i, f i = f 0 := by
      intro i
      induction i with
      | zero => rfl
      | succ i ih => rw [← ih]; exact h i
    show (if allSame (0 + 1) f = true then Tr.e (f 0) else _) = _
    rw [if_pos (allSame_iff.mpr fun i _ => h0 i)]
    rfl
  | k + 1, f, h => by
    have hp : 2 ^ (k + 1) = 2 * 2 ^ k := by rw [Nat.pow_succ]; omega
    have e1 : allSame (k + 1 + 1) f = allSame (k + 1) f := by
      rw [Bool.eq_iff_iff, allSame_iff, allSame_iff]
      constructor
      · intro q i hi
        exact q i (by rw [Nat.pow_succ]; omega)
      · intro q i hi
        by_cases hi2 : i < 2 ^ (k + 1)
        · exact q i hi2
        · have := h (i - 2 ^ (k + 1))
          rw [show i - 2 ^ (k + 1) + 2 ^ (k + 1) = i by omega] at this
          rw [this]
          exact q _ (by rw [Nat.pow_succ] at hi; omega)
    rw [bt, e1]
    rw [show bt (k + 1) f = if allSame (k + 1) f = true then .e (f 0) else .s true (bt k fun i => f (2 * i)) (bt k fun i => f (2 * i + 1)) from rfl]
    rw [bt_up k (fun i => f (2 * i)) (fun i => by show f (2 * (i + 2 ^ k)) = f (2 * i); rw [Nat.mul_add, ← hp, h]), bt_up k (fun i => f (2 * i + 1)) (fun i => by show f (2 * (i + 2 ^ k) + 1) = f (2 * i + 1); rw [show 2 * (i + 2 ^ k) + 1 = (2 * i + 1) + 2 ^ (k + 1) by omega, h])]
theorem per_more {f : Nat → Str} {p : Nat} (h : ∀ i, f (i + p) = f i) : ∀ (q i : Nat), f (i + q * p) = f i
  | 0, i => by simp
  | q + 1, i => by rw [show i + (q + 1) * p = (i + q * p) + p by rw [Nat.add_mul]; omega, h, per_more h q i]
theorem per_pow {f : Nat → Str} {k m : Nat} (hkm : k ≤ m) (h : ∀ i, f (i + 2 ^ k) = f i) : ∀ i, f (i + 2 ^ m) = f i := by
  intro i
  have := per_more h (2 ^ (m - k)) i
  rw [← Nat.pow_add, show m - k + k = m by omega] at this
  exact this
theorem bt_ups {f : Nat → Str} {k : Nat} (h : ∀ i, f (i + 2 ^ k) = f i) : ∀ j : Nat, bt (k + j) f = bt k f
  | 0 => rfl
  | j + 1 => by
    rw [show k + (j + 1) = (k + j) + 1 by omega, bt_up (k + j) f (per_pow (by omega) h), bt_ups h j]
/-- the least tree -/
def least (t : Tr) : Tr := bt t.deep t.at'
theorem least_at (t : Tr) (i : Nat) : t.least.at' i = t.at' i := by
  unfold least
  rw [bt_at]
  have := per_more (f := t.at') (p := 2 ^ t.deep) (fun k => t.period t.deep k (Nat.le_refl _)) (i / 2 ^ t.deep) (i % 2 ^ t.deep)
  rw [← this]
  congr 1
  have := Nat.div_add_mod i (2 ^ t.deep)
  rw [Nat.mul_comm]; omega
theorem least_bt (t : Tr) {k : Nat} (h : t.deep ≤ k) : bt k t.at' = t.least := by
  have := bt_ups (f := t.at') (k := t.deep) (fun k => t.period t.deep k (Nat.le_refl _)) (k - t.deep)
  rw [show t.deep + (k - t.deep) = k by omega] at this
  exact this
theorem least_eq {t u : Tr} (h : ∀ i, t.at' i = u.at' i) : t.least = u.least := by
  rw [← least_bt t (Nat.le_max_left t.deep u.deep), ← least_bt u (Nat.le_max_right t.deep u.deep)]
  exact bt_ext h
theorem least_iff {t u : Tr} : t.least = u.least ↔ ∀ i, t.at' i = u.at' i :=
  ⟨fun h i => by rw [← least_at t, ← least_at u, h], least_eq⟩
theorem least_least (t : Tr) : t.least.least = t.least := least_eq fun i => least_at t i
theorem least_deep (t : Tr) : t.least.deep ≤ t.deep := bt_deep _ _
theorem at_even (l : Bool) (a b : Tr) (i : Nat) : (Tr.s l a b).at' (2 * i) = (if l = true then a else b).at' i := by
  have e : 2 * i % 2 = 0 := by omega
  have e2 : 2 * i / 2 = i := by omega
  simp only [at', e, e2]
  cases l <;> simp
theorem at_odd (l : Bool) (a b : Tr) (i : Nat) : (Tr.s l a b).at' (2 * i + 1) = (if l = true then b else a).at' i := by
  have e : (2 * i + 1) % 2 = 1 := by omega
  have e2 : (2 * i + 1) / 2 = i := by omega
  simp only [at', e, e2]
  cases l <;> simp
theorem least_size : ∀ t : Tr, t.least.size ≤ t.size
  | .e n => Nat.le_refl _
  | .s l a b => by
    have ha := least_size a
    have hb := least_size b
    show (bt (1 + max a.deep b.deep) _).size ≤ 1 + a.size + b.size
    rw [show 1 + max a.deep b.deep = max a.deep b.deep + 1 by omega, bt]
    split
    · exact Nat.zero_le _
    · have e1 : bt (max a.deep b.deep) (fun i => (Tr.s l a b).at' (2 * i)) = (if l = true then a else b).least := by
        rw [bt_ext (fun i => at_even l a b i)]
        cases l
        · exact least_bt b (by omega)
        · exact least_bt a (by omega)
      have e2 : bt (max a.deep b.deep) (fun i => (Tr.s l a b).at' (2 * i + 1)) = (if l = true then b else a).least := by
        rw [bt_ext (fun i => at_odd l a b i)]
        cases l
        · exact least_bt a (by omega)
        · exact least_bt b (by omega)
      rw [e1, e2]
      cases l
      · show 1 + b.least.size + a.least.size ≤ _
        omega
      · show 1 + a.least.size + b.least.size ≤ _
        omega
def turned : Tr → Tr
  | .e n => .e n
  | .s l a b => .s (!l) b.turned a.turned
theorem turned_at : ∀ (t : Tr) (i : Nat), t.turned.at' i = t.at' i
  | .e n, i => rfl
  | .s l a b, i => by
    simp only [turned, at', turned_at a, turned_at b]
    cases l <;> by_cases q : i % 2 = 0 <;> simp [q]
theorem turned_deep : ∀ t : Tr, t.turned.deep = t.deep
  | .e n => rfl
  | .s l a b => by
    simp only [turned, deep, turned_deep a, turned_deep b]
    omega
theorem turned_names {P : Str → Prop} : ∀ {t : Tr}, t.names P → t.turned.names P
  | .e n, h => h
  | .s l a b, h => ⟨turned_names h.2, turned_names h.1⟩
def doubled : Tr → Tr
  | .e n => .s false (.e n) (.e n)
  | .s l a b => .s l a.doubled b.doubled
theorem doubled_at : ∀ (t : Tr) (i : Nat), t.doubled.at' i = t.at' i
  | .e n, i => by simp only [doubled, at']; split <;> rfl
  | .s l a b, i => by simp only [doubled, at', doubled_at a, doubled_at b]
theorem doubled_deep : ∀ t : Tr, t.doubled.deep = t.deep + 1
  | .e n => rfl
  | .s l a b => by
    simp only [doubled, deep, doubled_deep a, doubled_deep b]
    omega
theorem doubled_names {P : Str → Prop} : ∀ {t : Tr}, t.names P → t.doubled.names P
  | .e n, h => ⟨h, h⟩
  | .s l a b, h => ⟨doubled_names h.1, doubled_names h.2⟩
def changed (z : Str) : Tr → Tr
  | .e n => .e z
  | .s l a b => .s l a (b.changed z)
theorem changed_at (z : Str) : ∀ t : Tr, ∃ i, (t.changed z).at' i = z
  | .e n => ⟨0, rfl⟩
  | .s l a b => by
    obtain ⟨i, h⟩ := changed_at z b
    cases l
    · exact ⟨2 * i, by rw [changed, at_even]; exact h⟩
    · exact ⟨2 * i + 1, by rw [changed, at_odd]; exact h⟩
theorem changed_deep (z : Str) : ∀ t : Tr, (t.changed z).deep ≤ t.deep
  | .e n => Nat.le_refl _
  | .s l a b => by
    have := changed_deep z b
    simp only [changed, deep]
    omega
theorem changed_names {P : Str → Prop} {z : Str} (hz : P z) : ∀ {t : Tr}, t.names P → (t.changed z).names P
  | .e n, h => hz
  | .s l a b, h => ⟨h.1, changed_names hz h.2⟩
theorem names_at {P : Str → Prop} : ∀ {t : Tr}, t.names P → ∀ i, P (t.at' i)
  | .e n, h, i => h
  | .s l a b, h, i => by
    simp only [at']
    split
    · exact names_at h.1 _
    · exact names_at h.2 _
/-- the first marble that ends elsewhere -/
def unl (t u : Tr) (n : Nat) : Option Nat := (List.range n).find? fun k => !(t.at' k == u.at' k)
theorem find_none {p : Nat → Bool} {m n : Nat} (h : (List.range m).find? p = none) (hp : ∀ k, p (k + m) = p k) (hm : 0 < m) : ∀ k, p k = false := by
  intro k
  have h0 : ∀ k, k < m → p k = false := by
    intro k hk
    have := List.find?_eq_none.mp h k (List.mem_range.mpr hk)
    simpa using this
  have : ∀ q i, p (i + q * m) = p i := by
    intro q
    induction q with
    | zero => intro i; simp
    | succ q ih => intro i; rw [show i + (q + 1) * m = (i + q * m) + m by rw [Nat.add_mul]; omega, hp, ih]
  have e := this (k / m) (k % m)
  rw [show k % m + k / m * m = k by have := Nat.div_add_mod k m; rw [Nat.mul_comm] at this; omega] at e
  rw [e]
  exact h0 _ (Nat.mod_lt _ hm)
theorem find_more {p : Nat → Bool} {m n : Nat} (hp : ∀ k, p (k + m) = p k) (hm : 0 < m) (hn : m ≤ n) : (List.range n).find? p = (List.range m).find? p := by
  cases h : (List.range m).find? p with
  | none =>
    rw [List.find?_eq_none]
    intro k hk
    rw [find_none (n := n) h hp hm k]
    exact Bool.false_ne_true
  | some x =>
    obtain ⟨j, rfl⟩ : ∃ j, n = m + j := ⟨n - m, by omega⟩
    rw [List.range_add, List.find?_append, h]
    rfl
theorem unl_per {t u : Tr} {m n : Nat} (h1 : t.deep ≤ m) (h2 : u.deep ≤ m) (hn : 2 ^ m ≤ n) : unl t u n = unl t u (2 ^ m) := by
  unfold unl
  exact find_more (fun k => by rw [t.period m k h1, u.period m k h2]) (Nat.two_pow_pos _) hn
theorem unl_none {t u : Tr} {m n : Nat} (h1 : t.deep ≤ m) (h2 : u.deep ≤ m) (hn : 2 ^ m ≤ n) : unl t u n = none ↔ ∀ i, t.at' i = u.at' i := by
  rw [unl_per h1 h2 hn]
  constructor
  · intro h i
    have := find_none (n := n) (p := fun k => !(t.at' k == u.at' k)) h (fun k => by rw [t.period m k h1, u.period m k h2]) (Nat.two_pow_pos _) i
    simpa using this
  · intro h
    unfold unl
    rw [List.find?_eq_none]
    intro k _
    rw [h k]; simp
theorem unl_comm (t u : Tr) (n : Nat) : unl t u n = unl u t n := by
  unfold unl
  congr 1
  funext k
  rw [Bool.beq_comm]
end Tr
end PQ

namespace PQ
open PySem PySem.Spec PyProof.Rows L2
namespace Tr
/-! rows of any number of names -/
def allS (m : Nat) (f : Nat → Str) : Bool := (List.range m).all fun i => f i == f 0
theorem allS_iff {m : Nat} {f : Nat → Str} : allS m f = true ↔ ∀ i, i < m → f i = f 0 := by
  unfold allS
  rw [List.all_eq_true]
  constructor
  · intro h i hi
    exact eq_of_beq (h i (List.mem_range.mpr hi))
  · intro h i hi
    rw [h i (List.mem_range.mp hi)]
    exact beq_self_eq_true _
theorem allS_small {m : Nat} (f : Nat → Str) (h : m ≤ 1) : allS m f = true := allS_iff.mpr fun i hi => by
  rw [show i = 0 by omega]
def bm : Nat → Nat → (Nat → Str) → Tr
  | 0, _, f => .e (f 0)
  | k + 1, m, f => if allS m f = true then .e (f 0) else .s true (bm k ((m + 1) / 2) fun i => f (2 * i)) (bm k (m / 2) fun i => f (2 * i + 1))
theorem bm_pow : ∀ (k : Nat) (f : Nat → Str), bm k (2 ^ k) f = bt k f
  | 0, f => rfl
  | k + 1, f => by
    have hp : 2 ^ (k + 1) = 2 * 2 ^ k := by rw [Nat.pow_succ]; omega
    rw [bm, bt, show (2 ^ (k + 1) + 1) / 2 = 2 ^ k by omega, show 2 ^ (k + 1) / 2 = 2 ^ k by omega, bm_pow k, bm_pow k]
    rfl
theorem bm_at : ∀ (k m : Nat) (f : Nat → Str) (i : Nat), m ≤ 2 ^ k → i < m → (bm k m f).at' i = f i
  | 0, m, f, i, hm, hi => by
    have hm : m ≤ 1 := hm
    rw [show i = 0 by omega]
    rfl
  | k + 1, m, f, i, hm, hi => by
    have hp : 2 ^ (k + 1) = 2 * 2 ^ k := by rw [Nat.pow_succ]; omega
    rw [bm]
    split
    · rename_i h
      exact ((allS_iff.mp h) i hi).symm
    · obtain ⟨j, hj⟩ : ∃ j, i = 2 * j ∨ i = 2 * j + 1 := ⟨i / 2, by omega⟩
      rcases hj with rfl | rfl
      · rw [at_even, if_pos rfl]
        exact bm_at k _ (fun i => f (2 * i)) j (by omega) (by omega)
      · rw [at_odd, if_pos rfl]
        exact bm_at k _ (fun i => f (2 * i + 1)) j (by omega) (by omega)
theorem bm_deep : ∀ (k m : Nat) (f : Nat → Str), (bm k m f).deep ≤ k
  | 0, m, f => Nat.le_refl _
  | k + 1, m, f => by
    rw [bm]
    split
    · exact Nat.zero_le _
    · have h1 := bm_deep k ((m + 1) / 2) fun i => f (2 * i)
      have h2 := bm_deep k (m / 2) fun i => f (2 * i + 1)
      show 1 + max _ _ ≤ k + 1
      omega
theorem bm_names (P : Str → Prop) : ∀ (k m : Nat) (f : Nat → Str), (∀ i, P (f i)) → (bm k m f).names P
  | 0, m, f, h => h 0
  | k + 1, m, f, h => by
    rw [bm]
    split
    · exact h 0
    · exact ⟨bm_names P k _ _ fun i => h _, bm_names P k _ _ fun i => h _⟩
theorem bm_size : ∀ (k m : Nat) (f : Nat → Str), 1 ≤ m → m ≤ 2 ^ k → (bm k m f).size + 1 ≤ m
  | 0, m, f, h, _ => by
    show 0 + 1 ≤ m
    omega
  | k + 1, m, f, h, hm => by
    have hp : 2 ^ (k + 1) = 2 * 2 ^ k := by rw [Nat.pow_succ]; omega
    rw [bm]
    split
    · show 0 + 1 ≤ m
      omega
    · rename_i q
      have : ¬ m ≤ 1 := fun z => q (allS_small f z)
      have h1 := bm_size k ((m + 1) / 2) (fun i => f (2 * i)) (by omega) (by omega)
      have h2 := bm_size k (m / 2) (fun i => f (2 * i + 1)) (by omega) (by omega)
      show 1 + _ + _ + 1 ≤ m
      omega
theorem things_size : ∀ t : Tr, t.things = 2 * t.size + 1
  | .e _ => rfl
  | .s _ a b => by
    have := things_size a
    have := things_size b
    simp only [things, size]
    omega
theorem allS_ext {m : Nat} {f g : Nat → Str} (h : ∀ i, i < m → f i = g i) : allS m f = allS m g := by
  rw [Bool.eq_iff_iff, allS_iff, allS_iff]
  constructor
  · intro q i hi
    rw [← h i hi, ← h 0 (by omega), q i hi]
  · intro q i hi
    rw [h i hi, h 0 (by omega), q i hi]
theorem bm_ext : ∀ (k m : Nat) {f g : Nat → Str}, 1 ≤ m → (∀ i, i < m → f i = g i) → bm k m f = bm k m g
  | 0, m, f, g, h1, h => by rw [bm, bm, h 0 (by omega)]
  | k + 1, m, f, g, h1, h => by
    rw [bm, bm, allS_ext h, h 0 (by omega)]
    split
    · rfl
    · rename_i q
      have : ¬ m ≤ 1 := fun z => q (allS_small g z)
      rw [bm_ext k ((m + 1) / 2) (f := fun i => f (2 * i)) (g := fun i => g (2 * i)) (by omega) fun i hi => h _ (by omega), bm_ext k (m / 2) (f := fun i => f (2 * i + 1)) (g := fun i => g (2 * i + 1)) (by omega) fun i hi => h _ (by omega)]
theorem bm_up : ∀ (k m : Nat) (f : Nat → Str), m ≤ 2 ^ k → bm (k + 1) m f = bm k m f
  | 0, m, f, h => by
    show (if allS m f = true then Tr.e (f 0) else _) = Tr.e (f 0)
    rw [if_pos (allS_small f h)]
  | k + 1, m, f, h => by
    have hp : 2 ^ (k + 1) = 2 * 2 ^ k := by rw [Nat.pow_succ]; omega
    rw [bm, bm_up k ((m + 1) / 2) _ (by omega), bm_up k (m / 2) _ (by omega)]
    rfl
theorem bm_ups {m : Nat} {f : Nat → Str} {k : Nat} (h : m ≤ 2 ^ k) : ∀ j : Nat, bm (k + j) m f = bm k m f
  | 0 => rfl
  | j + 1 => by
    have : 2 ^ k ≤ 2 ^ (k + j) := Nat.pow_le_pow_right (by omega) (by omega)
    rw [show k + (j + 1) = (k + j) + 1 by omega, bm_up (k + j) m f (by omega), bm_ups h j]
/-- how many switches are needed -/
def nd (m : Nat) (f : Nat → Str) : Nat := (bm m m f).size
theorem nd_eq {k m : Nat} (f : Nat → Str) (h : m ≤ 2 ^ k) : (bm k m f).size = nd m f := by
  have h2 : m ≤ 2 ^ m := Nat.le_of_lt Nat.lt_two_pow_self
  unfold nd
  by_cases q : k ≤ m
  · have := bm_ups (f := f) h (m - k)
    rw [show k + (m - k) = m by omega] at this
    rw [this]
  · have := bm_ups (f := f) h2 (k - m)
    rw [show m + (k - m) = k by omega] at this
    rw [this]
theorem nd_same {m : Nat} {f : Nat → Str} (h : allS m f = true) : nd m f = 0 := by
  unfold nd
  cases m with
  | zero => rfl
  | succ m => rw [bm, if_pos h]; rfl
theorem nd_step {m : Nat} {f : Nat → Str} (h : allS m f = false) : nd m f = 1 + nd ((m + 1) / 2) (fun i => f (2 * i)) + nd (m / 2) (fun i => f (2 * i + 1)) := by
  have hm : ¬ m ≤ 1 := fun z => by rw [allS_small f z] at h; cases h
  obtain ⟨k, rfl⟩ : ∃ k, m = k + 1 := ⟨m - 1, by omega⟩
  have h2 : k < 2 ^ k := Nat.lt_two_pow_self
  show (bm (k + 1) (k + 1) f).size = _
  rw [bm, if_neg (by rw [h]; exact Bool.false_ne_true)]
  show 1 + _ + _ = _
  rw [nd_eq _ (by omega), nd_eq _ (by omega)]
theorem nd_ext {m : Nat} {f g : Nat → Str} (h1 : 1 ≤ m) (h : ∀ i, i < m → f i = g i) : nd m f = nd m g := by
  unfold nd
  rw [bm_ext m m h1 h]
theorem nd_le {m : Nat} {f : Nat → Str} (h1 : 1 ≤ m) : nd m f + 1 ≤ m := bm_size m m f h1 (Nat.le_of_lt Nat.lt_two_pow_self)
/-- one row and another by turns -/
def mix (f g : Nat → Str) (i : Nat) : Str := if i % 2 = 0 then f (i / 2) else g (i / 2)
theorem mix_even (f g : Nat → Str) (i : Nat) : mix f g (2 * i) = f i := by
  unfold mix
  rw [if_pos (by omega), show 2 * i / 2 = i by omega]
theorem mix_odd (f g : Nat → Str) (i : Nat) : mix f g (2 * i + 1) = g i := by
  unfold mix
  rw [if_neg (by omega), show (2 * i + 1) / 2 = i by omega]
theorem mix_self (f : Nat → Str) (i : Nat) : mix (fun i => f (2 * i)) (fun i => f (2 * i + 1)) i = f i := by
  unfold mix
  split
  · show f (2 * (i / 2)) = f i
    rw [show 2 * (i / 2) = i by omega]
  · show f (2 * (i / 2) + 1) = f i
    rw [show 2 * (i / 2) + 1 = i by omega]
theorem nd_mix {m : Nat} {f g : Nat → Str} : nd m (mix f g) ≤ 1 + nd ((m + 1) / 2) f + nd (m / 2) g := by
  cases q : allS m (mix f g) with
  | true => rw [nd_same q]; omega
  | false =>
    rw [nd_step q, show (fun i => mix f g (2 * i)) = f from funext fun i => mix_even f g i, show (fun i => mix f g (2 * i + 1)) = g from funext fun i => mix_odd f g i]
    omega
/-! ### rows that come again -/
def Per (f : Nat → Str) (p : Nat) : Prop := ∀ i, f (i + p) = f i
theorem Per.mul {f : Nat → Str} {p : Nat} (h : Per f p) (q i : Nat) : f (i + q * p) = f i := per_more h q i
theorem Per.mod {f : Nat → Str} {p : Nat} (h : Per f p) (i : Nat) : f (i % p) = f i := by
  have := h.mul (i / p) (i % p)
  rw [← this]
  congr 1
  have := Nat.div_add_mod i p
  rw [Nat.mul_comm]; omega
theorem Per.dvd {f : Nat → Str} {p m : Nat} (h : Per f p) (hd : p ∣ m) : Per f m := by
  obtain ⟨q, rfl⟩ := hd
  intro i
  rw [Nat.mul_comm]
  exact h.mul q i
theorem Per.gcd {f : Nat → Str} : ∀ (n p q : Nat), p + q ≤ n → Per f p → Per f q → Per f (Nat.gcd p q)
  | 0, p, q, h, hp, hq => by
    rw [show p = 0 by omega, Nat.gcd_zero_left]
    exact hq
  | n + 1, p, q, h, hp, hq => by
    by_cases p0 : p = 0
    · rw [p0, Nat.gcd_zero_left]; exact hq
    by_cases q0 : q = 0
    · rw [q0, Nat.gcd_zero_right]; exact hp
    by_cases hl : p ≤ q
    · have e : Per f (q - p) := fun i => by
        rw [← hp (i + (q - p)), show i + (q - p) + p = i + q by omega]
        exact hq i
      have := Per.gcd n p (q - p) (by omega) hp e
      rwa [Nat.gcd_sub_self_right hl] at this
    · have e : Per f (p - q) := fun i => by
        rw [← hq (i + (p - q)), show i + (p - q) + q = i + p by omega]
        exact hp i
      have := Per.gcd n (p - q) q (by omega) e hq
      rwa [Nat.gcd_sub_self_left (by omega)] at this
/-- the row comes again and again behind p -/
def perB (m : Nat) (f : Nat → Str) (p : Nat) : Bool := (List.range m).all fun i => f i == f (i % p)
theorem perB_iff {m p : Nat} {f : Nat → Str} (hd : p ∣ m) (hm : 1 ≤ m) (h : Per f m) : perB m f p = true ↔ Per f p := by
  unfold perB
  rw [List.all_eq_true]
  constructor
  · intro q
    have key : ∀ i, f i = f (i % p) := fun i => by
      have a := eq_of_beq (q (i % m) (List.mem_range.mpr (Nat.mod_lt _ hm)))
      rw [Nat.mod_mod_of_dvd _ hd] at a
      exact (h.mod i).symm.trans a
    intro i
    rw [key (i + p), Nat.add_mod_right, ← key i]
  · intro q i _
    rw [q.mod i]
    exact beq_self_eq_true _
/-- p is the shortest row that comes again and again -/
structure IsSh (m : Nat) (f : Nat → Str) (p : Nat) : Prop where
  pos : 1 ≤ p
  dvd : p ∣ m
  per : Per f p
  least : ∀ q, 1 ≤ q → q ∣ m → Per f q → p ≤ q
theorem isSh_ex {m : Nat} {f : Nat → Str} (hm : 1 ≤ m) (h : Per f m) : ∃ p, IsSh m f p := by
  have key : ∀ n, ∀ q, q ≤ n → 1 ≤ q → q ∣ m → Per f q → ∃ p, IsSh m f p := by
    intro n
    induction n with
    | zero => intro q a b; omega
    | succ n ih =>
      intro q a b c d
      by_cases z : ∃ r, r < q ∧ 1 ≤ r ∧ r ∣ m ∧ Per f r
      · obtain ⟨r, z1, z2, z3, z4⟩ := z
        exact ih r (by omega) z2 z3 z4
      · exact ⟨q, b, c, d, fun r r1 r2 r3 => Nat.not_lt.mp fun l => z ⟨r, l, r1, r2, r3⟩⟩
  exact key m m (Nat.le_refl _) hm (Nat.dvd_refl _) h
theorem IsSh.twice {m : Nat} {f : Nat → Str} {p : Nat} (s : IsSh m f p) : IsSh (2 * m) f p :=
  ⟨s.pos, Nat.dvd_trans s.dvd ⟨2, Nat.mul_comm 2 m⟩, s.per, fun q q1 q2 q3 => by
    have g := Per.gcd _ q p (Nat.le_refl _) q3 s.per
    have := s.least (Nat.gcd q p) (Nat.gcd_pos_of_pos_left _ q1) (Nat.dvd_trans (Nat.gcd_dvd_right q p) s.dvd) g
    exact Nat.le_trans this (Nat.le_of_dvd q1 (Nat.gcd_dvd_left q p))⟩
theorem IsSh.le {m : Nat} {f : Nat → Str} {p : Nat} (s : IsSh m f p) (hm : 1 ≤ m) : p ≤ m := Nat.le_of_dvd hm s.dvd
theorem IsSh.deep {m : Nat} {f : Nat → Str} {k : Nat} (s : IsSh m f (2 ^ k)) : (bt k f).deep = k := by
  have h1 := bt_deep k f
  rcases Nat.lt_or_ge (bt k f).deep k with l | l
  · exfalso
    have e : ∀ i, (bt k f).at' i = f i := fun i => by rw [bt_at, s.per.mod]
    have p : Per f (2 ^ (k - 1)) := fun i => by rw [← e, ← e, Tr.period _ (k - 1) i (by omega)]
    have hk : 2 ^ k = 2 ^ (k - 1) * 2 := by rw [← Nat.pow_succ, show (k - 1).succ = k by omega]
    have h1 : 1 ≤ 2 ^ (k - 1) := Nat.one_le_two_pow
    have := s.least (2 ^ (k - 1)) h1 (Nat.dvd_trans ⟨2, hk⟩ s.dvd) p
    omega
  · omega
theorem IsSh.head {m : Nat} {f : Nat → Str} {p : Nat} (s : IsSh m f p) (hm : 1 ≤ m) (t : Nat → Bool) (ht : ∀ k, k < m → (t k = true ↔ (k + 1) ∣ m ∧ Per f (k + 1))) : ((List.range m).filter t).head? = some (p - 1) := by
  have h1 := s.pos
  have h2 := s.le hm
  rw [List.head?_filter, List.find?_range_eq_some]
  have e : p - 1 + 1 = p := by omega
  refine ⟨(ht _ (by omega)).mpr (by rw [e]; exact ⟨s.dvd, s.per⟩), by rw [List.mem_range]; omega, fun j hj => ?_⟩
  cases q : t j with
  | false => rfl
  | true =>
    exfalso
    obtain ⟨a, b⟩ := (ht j (by omega)).mp q
    have := s.least (j + 1) (by omega) a b
    omega
end Tr
end PQ

namespace PQ
open PySem PySem.Spec PyProof.Rows L2

theorem es1 : ((Str.ofString "end" : Str) == Str.ofString "switch") = false := by decide +kernel
theorem es2 : ((Str.ofString "switch" : Str) == Str.ofString "end") = false := by decide +kernel
theorem es3 : ((Str.ofString "L" : Str) == Str.ofString "R") = false := by decide +kernel
theorem es4 : ((Str.ofString "R" : Str) == Str.ofString "L") = false := by decide +kernel
/-- the names that the law draws and asks for -/
def okName (s : Str) : Prop := F_is_name [.str s] = .ok (.bool true)
theorem ok_a : okName "a" := by unfold okName; rfl
theorem ok_b : okName "b" := by unfold okName; rfl
theorem ok_cc : okName "cc" := by unfold okName; rfl
/-- the names that the law draws -/
def nm3 (s : Str) : Prop := s = "a" ∨ s = "b" ∨ s = "cc"
theorem nm3_ok {s : Str} (h : nm3 s) : okName s := by
  rcases h with rfl | rfl | rfl
  · exact ok_a
  · exact ok_b
  · exact ok_cc
theorem Tr.names_mono {P Q : Str → Prop} (h : ∀ s, P s → Q s) : ∀ {t : Tr}, t.names P → t.names Q
  | .e n, q => h n q
  | .s l a b, q => ⟨names_mono h q.1, names_mono h q.2⟩

theorem f_things : ∀ (n : Nat) (t : Tr), t.deep < n → F_things_in n [t.d] = .ok (.int t.things)
  | 0, t, h => by omega
  | n + 1, .e x, h => by
    show runD 1 (S_things_in (F_things_in n)) _ = _
    simp [runD, S_things_in, Tr.d, Tr.things]
  | n + 1, .s l a b, h => by
    have h : 1 + max a.deep b.deep < n + 1 := h
    have ha := f_things n a (by omega)
    have hb := f_things n b (by omega)
    show runD 1 (S_things_in (F_things_in n)) _ = _
    simp [runD, S_things_in, Tr.d, Tr.things, es2, ha, hb]
theorem f_deep : ∀ (n : Nat) (t : Tr), t.deep < n → F_deep_in n [t.d] = .ok (.int t.deep)
  | 0, t, h => by omega
  | n + 1, .e x, h => by
    show runD 1 (S_deep_in (F_deep_in n)) _ = _
    simp [runD, S_deep_in, Tr.d, Tr.deep]
  | n + 1, .s l a b, h => by
    have h : 1 + max a.deep b.deep < n + 1 := h
    have ha := f_deep n a (by omega)
    have hb := f_deep n b (by omega)
    show runD 1 (S_deep_in (F_deep_in n)) _ = _
    have e : (if (b.deep : Int) > a.deep then (b.deep : Int) else a.deep) = ((max a.deep b.deep : Nat) : Int) := by split <;> omega
    simp [runD, S_deep_in, Tr.d, Tr.deep, es2, ha, hb]
    omega
theorem f_within : ∀ (n : Nat) (t : Tr) (r : Nat), t.deep < n → t.deep ≤ r → t.names okName → F__is_within n [t.d, .int r] = .ok (.bool true)
  | 0, t, r, h, _, _ => by omega
  | n + 1, .e x, r, h, _, hn => by
    have hn : F_is_name [.str x] = .ok (.bool true) := hn
    show runD 2 (S__is_within (F__is_within n)) _ = _
    have h1 : dNotIn (.int 2) (.tuple [.int 2, .int 4]) = .ok (.bool false) := by rfl
    simp [runD, S__is_within, Tr.d, hn, h1, isaB, tyName]
  | n + 1, .s l a b, 0, h, hr, _ => by simp [Tr.deep] at hr
  | n + 1, .s l a b, r + 1, h, hr, hn => by
    have h : 1 + max a.deep b.deep < n + 1 := h
    have hr : 1 + max a.deep b.deep ≤ r + 1 := hr
    have ha := f_within n a r (by omega) (by omega) hn.1
    have hb := f_within n b r (by omega) (by omega) hn.2
    show runD 2 (S__is_within (F__is_within n)) _ = _
    have h1 : dNotIn (.int 4) (.tuple [.int 2, .int 4]) = .ok (.bool false) := by rfl
    have h2 : ∀ l : Bool, dNotIn (.str (if l = true then "L" else "R")) (.tuple [.str "L", .str "R"]) = .ok (.bool false) := fun l => by cases l <;> rfl
    have h3 : ((r : Int) + 1 = 0) = False := by simp; omega
    simp [runD, S__is_within, Tr.d, h1, h2, h3, es2, ha, hb, isaB, tyName]
/-- a tree that the law asks of -/
structure Tr.Ok (t : Tr) : Prop where
  deep : t.deep ≤ 7
  size : t.size ≤ 70
  nm : t.names okName
theorem f_istree {t : Tr} (h : t.Ok) : F_is_tree [t.d] = .ok (.bool true) := by
  have h1 := f_within 16 t 8 (by have := h.deep; omega) (by have := h.deep; omega) h.nm
  have h2 := f_things 16 t (by have := h.deep; omega)
  have h3 := t.things_size
  have h5 : (t.things : Int) ≤ 200 := by have := h.size; omega
  show runD 1 S_is_tree _ = _
  simp at h1
  simp [runD, S_is_tree, h1, h2, h5]
theorem f_tree {t : Tr} (h : t.Ok) : F_check_tree [t.d] = .ok .none := by
  have e := f_istree h
  show runD 1 S_check_tree _ = _
  simp [runD, S_check_tree, e]
theorem f_whole {i lo hi : Int} (h1 : lo ≤ i) (h2 : i ≤ hi) : F_is_whole [.int i, .int lo, .int hi] = .ok (.bool true) := by
  show runD 3 S_is_whole _ = _
  simp [runD, S_is_whole, isaB, tyName, h1, h2]
theorem f_again {t : Tr} (h : t.Ok) : F_again_in [t.d] = .ok (.int (2 ^ t.deep : Nat)) := by
  have h2 := f_deep 16 t (by have := h.deep; omega)
  show runD 1 S_again_in _ = _
  simp [runD, S_again_in, h2]
  obtain ⟨h, _⟩ := h
  generalize t.deep = k at h
  rcases (by omega : k = 0 ∨ k = 1 ∨ k = 2 ∨ k = 3 ∨ k = 4 ∨ k = 5 ∨ k = 6 ∨ k = 7) with rfl | rfl | rfl | rfl | rfl | rfl | rfl | rfl <;> rfl
theorem f_size : ∀ (n : Nat) (t : Tr), t.deep < n → F__size n [t.d] = .ok (.int t.size)
  | 0, t, h => by omega
  | n + 1, .e x, h => by
    show runD 1 (S__size (F__size n)) _ = _
    simp [runD, S__size, Tr.d, Tr.size]
  | n + 1, .s l a b, h => by
    have h : 1 + max a.deep b.deep < n + 1 := h
    have ha := f_size n a (by omega)
    have hb := f_size n b (by omega)
    show runD 1 (S__size (F__size n)) _ = _
    simp [runD, S__size, Tr.d, Tr.size, es2, ha, hb]
theorem f_tsize {t : Tr} (h : t.Ok) : F_tree_size [t.d] = .ok (.int t.size) := by
  have h1 := f_tree h
  have h2 := f_size 16 t (by have := h.deep; omega)
  show runD 1 S_tree_size _ = _
  simp [runD, S_tree_size, h1, h2]
theorem f_tagain {t : Tr} (h : t.Ok) : F_tree_again [t.d] = .ok (.int (2 ^ t.deep : Nat)) := by
  have h1 := f_tree h
  have h2 := f_again h
  simp at h2
  show runD 1 S_tree_again _ = _
  simp [runD, S_tree_again, h1, h2]
theorem f_pdrop : ∀ (n : Nat) (t : Tr), t.deep < n → F__drop n [t.d] = .ok (.tuple [t.drop.1.d, .str t.drop.2])
  | 0, t, h => by omega
  | n + 1, .e x, h => by
    show runD 6 (S__drop (F__drop n)) _ = _
    simp [runD, S__drop, Tr.d, Tr.drop]
  | n + 1, .s true a b, h => by
    have h : 1 + max a.deep b.deep < n + 1 := h
    have ha := f_pdrop n a (by omega)
    show runD 6 (S__drop (F__drop n)) _ = _
    simp [runD, S__drop, Tr.d, Tr.drop, es2, ha]
  | n + 1, .s false a b, h => by
    have h : 1 + max a.deep b.deep < n + 1 := h
    have hb := f_pdrop n b (by omega)
    show runD 6 (S__drop (F__drop n)) _ = _
    simp [runD, S__drop, Tr.d, Tr.drop, es2, es4, hb]
theorem ends_loop : ∀ (js : List D) (t : Tr) (i : Nat) (t0 : Tr), t.deep ≤ 7 → (∀ k, t.at' k = t0.at' (i + k)) → i + js.length ≤ 1000 →
    ∃ t' : Tr, forL (aName 3) B_tree_ends_1 [1, 3, 4] js [.f t.d, .u, .o (.list ((List.range i).map fun k => PyData.str (t0.at' k))), .u, .u] = .nx [.f t'.d, .u, .o (.list ((List.range (i + js.length)).map fun k => PyData.str (t0.at' k))), .u, .u]
  | [], t, i, t0, _, _, _ => ⟨t, rfl⟩
  | j :: js, t, i, t0, hd, hk, hl => by
    rw [List.length_cons] at hl
    obtain ⟨h1, h2⟩ := t.at_drop
    obtain ⟨t', ht⟩ := ends_loop js t.drop.1 (i + 1) t0 (by rw [Tr.deep_drop]; exact hd) (fun k => by rw [h2, hk]; congr 1; omega) (by omega)
    refine ⟨t', ?_⟩
    rw [List.length_cons, show i + (js.length + 1) = i + 1 + js.length by omega]
    refine forL_next [.f t.d, .u, .o (.list ((List.range i).map fun k => PyData.str (t0.at' k))), .f j, .u] [.f t.drop.1.d, .u, .o (.list ((List.range (i + 1)).map fun k => PyData.str (t0.at' k))), .f j, .f (.str t.drop.2)] (by rfl) ?_ (by rfl) ht
    have hdr := f_pdrop 16 t (by omega)
    have hf : fits (i + 1) = true := fits_ok (by omega)
    have h0 : t.drop.2 = t0.at' i := by rw [h1, hk]; rfl
    simp [B_tree_ends_1, hdr, hf, List.range_succ, h0]
theorem f_ends {t : Tr} (h : t.Ok) (m : Nat) (hm : m ≤ 1000) : F_tree_ends [t.d, .int m] = .ok (.tuple ((List.range m).map fun k => PyData.str (t.at' k))) := by
  obtain ⟨t', ht⟩ := ends_loop (rgD 0 m) t 0 t h.deep (fun k => by rw [Nat.zero_add]) (by rw [rgD_len]; omega)
  have hb : big62 m = true := big62_ok (by omega) (by omega)
  have e : 0 + (rgD 0 m).length = m := by rw [rgD_len]; omega
  rw [e] at ht
  have h1 := f_tree h
  have h2 : F_is_whole [.int m, .int 0, .int 1000] = .ok (.bool true) := f_whole (by omega) (by omega)
  show runD 5 S_tree_ends _ = _
  simp at ht
  simp [runD, S_tree_ends, h1, h2, hb, ht, frz, dTuple]
theorem f_drop : ∀ (n : Nat) (t : Tr), t.deep < n → F__law_drop n [t.d] = .ok (.tuple [t.drop.1.d, .str t.drop.2])
  | 0, t, h => by omega
  | n + 1, .e x, h => by
    show runD 3 (S__law_drop (F__law_drop n)) _ = _
    simp [runD, S__law_drop, Tr.d, Tr.drop]
  | n + 1, .s true a b, h => by
    have h : 1 + max a.deep b.deep < n + 1 := h
    have ha := f_drop n a (by omega)
    show runD 3 (S__law_drop (F__law_drop n)) _ = _
    simp [runD, S__law_drop, Tr.d, Tr.drop, es2, ha]
  | n + 1, .s false a b, h => by
    have h : 1 + max a.deep b.deep < n + 1 := h
    have hb := f_drop n b (by omega)
    show runD 3 (S__law_drop (F__law_drop n)) _ = _
    simp [runD, S__law_drop, Tr.d, Tr.drop, es2, es4, hb]
theorem names_loop : ∀ (js : List D) (t : Tr) (i : Nat) (t0 : Tr), t.deep ≤ 7 → (∀ k, t.at' k = t0.at' (i + k)) → i + js.length ≤ 1000 →
    ∃ t' : Tr, forL (aName 3) B__law_names_1 [1, 3, 4] js [.f t.d, .u, .f (.tuple ((List.range i).map fun k => PyData.str (t0.at' k))), .u, .u] = .nx [.f t'.d, .u, .f (.tuple ((List.range (i + js.length)).map fun k => PyData.str (t0.at' k))), .u, .u]
  | [], t, i, t0, _, _, _ => ⟨t, rfl⟩
  | j :: js, t, i, t0, hd, hk, hl => by
    rw [List.length_cons] at hl
    obtain ⟨h1, h2⟩ := t.at_drop
    obtain ⟨t', ht⟩ := names_loop js t.drop.1 (i + 1) t0 (by rw [Tr.deep_drop]; exact hd) (fun k => by rw [h2, hk]; congr 1; omega) (by omega)
    refine ⟨t', ?_⟩
    rw [List.length_cons, show i + (js.length + 1) = i + 1 + js.length by omega]
    refine forL_next [.f t.d, .u, .f (.tuple ((List.range i).map fun k => PyData.str (t0.at' k))), .f j, .u] [.f t.drop.1.d, .u, .f (.tuple ((List.range (i + 1)).map fun k => PyData.str (t0.at' k))), .f j, .f (.str t.drop.2)] (by rfl) ?_ (by rfl) ht
    have hdr := f_drop 16 t (by omega)
    have hf : fits (i + 1) = true := fits_ok (by omega)
    have h0 : t.drop.2 = t0.at' i := by rw [h1, hk]; rfl
    simp [B__law_names_1, hdr, hf, List.range_succ, h0]
theorem f_names {t : Tr} (h : t.Ok) (m : Nat) (hm : m ≤ 1000) : F__law_names [t.d, .int m] = .ok (.tuple ((List.range m).map fun k => PyData.str (t.at' k))) := by
  obtain ⟨t', ht⟩ := names_loop (rgD 0 m) t 0 t h.deep (fun k => by rw [Nat.zero_add]) (by rw [rgD_len]; omega)
  have hb : big62 m = true := big62_ok (by omega) (by omega)
  have e : 0 + (rgD 0 m).length = m := by rw [rgD_len]; omega
  rw [e] at ht
  show runD 5 S__law_names _ = _
  simp at ht
  simp [runD, S__law_names, hb, ht]
/-- a row of m names -/
def nmN (m : Nat) (f : Nat → Str) : List D := (List.range m).map fun i => PyData.str (f i)
theorem nmN_get {m : Nat} {f : Nat → Str} {i : Nat} (h : i < m) : (nmN m f)[i]? = some (.str (f i)) := by
  unfold nmN
  rw [List.getElem?_map, List.getElem?_range h]; rfl
theorem nmN_len (m : Nat) (f : Nat → Str) : (nmN m f).length = m := by unfold nmN; simp
theorem nmN_at {m : Nat} {f : Nat → Str} {i : Nat} (h : i < m) : atI (nmN m f) (i : Int) = some (.str (f i)) := atI_nat (nmN_get h)
theorem nmN_evens (m : Nat) (f : Nat → Str) : strideL (nmN m f) 0 2 = nmN ((m + 1) / 2) fun i => f (2 * i) := by
  apply List.ext_getElem?
  intro j
  rw [stride_get]
  by_cases h : j < (m + 1) / 2
  · rw [nmN_get h, nmN_get (by omega)]; congr 3; omega
  · rw [List.getElem?_eq_none (by rw [nmN_len]; omega), List.getElem?_eq_none (by rw [nmN_len]; omega)]
theorem nmN_odds (m : Nat) (f : Nat → Str) : strideL (nmN m f) 1 2 = nmN (m / 2) fun i => f (2 * i + 1) := by
  apply List.ext_getElem?
  intro j
  rw [stride_get]
  by_cases h : j < m / 2
  · rw [nmN_get h, nmN_get (by omega)]; congr 3; omega
  · rw [List.getElem?_eq_none (by rw [nmN_len]; omega), List.getElem?_eq_none (by rw [nmN_len]; omega)]
theorem same_comp (m : Nat) (f : Nat → Str) (hm : 1 ≤ m) (hm2 : m ≤ 64) (s : Sl) : eA dAll (eCons (eComp (iSeq (eVar 0)) (aName 1) (tTrue) (e2 dEq (eVar 1) (e2 dIx (eVar 0) (eInt 0))) [1]) (eNil)) [.f (.tuple (nmN m f)), s] = .ok (.bool (Tr.allS m f)) := by
  have h0 : atI (nmN m f) 0 = some (.str (f 0)) := nmN_at (i := 0) hm
  have hc : compR (cStep (aName 1) tTrue (e2 dEq (eVar 1) (e2 dIx (eVar 0) (eInt 0))) [.f (.tuple (nmN m f)), .u]) (nmN m f) = .ok ((List.range m).map fun i => PyData.bool (f i == f 0)) := by
    rw [show compR (cStep (aName 1) tTrue (e2 dEq (eVar 1) (e2 dIx (eVar 0) (eInt 0))) [.f (.tuple (nmN m f)), .u]) (nmN m f) = compR (cStep (aName 1) tTrue (e2 dEq (eVar 1) (e2 dIx (eVar 0) (eInt 0))) [.f (.tuple (nmN m f)), .u]) ((List.range m).map fun i => PyData.str (f i)) from rfl]
    refine compR_all _ _ _ fun i _ => ?_
    simp [cStep, h0]
  have hf : fits (nmN m f).length = true := by
    rw [nmN_len]
    exact fits_ok (by omega)
  have hb : bools ((List.range m).map fun i => PyData.bool (f i == f 0)) = .ok ((List.range m).map fun i => (f i == f 0)) := by
    have := bools_map (bs := (List.range m).map fun i => (f i == f 0))
    rw [List.map_map] at this
    exact this
  simp [hf, hc, dAll, hb, Tr.allS, List.all_map]
theorem f_built : ∀ (n k m : Nat) (f : Nat → Str), k < n → 1 ≤ m → m ≤ 2 ^ k → m ≤ 64 → F__built n [.tuple (nmN m f)] = .ok (Tr.bm k m f).d
  | 0, k, m, f, h, _, _, _ => by omega
  | n + 1, k, m, f, h, hm, hk, h64 => by
    have hs := fun s => same_comp m f hm h64 s
    have h0 : atI (nmN m f) 0 = some (.str (f 0)) := nmN_at (i := 0) hm
    show runD 2 (S__built (F__built n)) _ = _
    simp only [runD, S__built, x_sCons, x_sIf, x_tV, List.map_cons, List.map_nil, List.cons_append, List.nil_append, List.length_cons, List.length_nil]
    rw [show List.replicate (2 - (0 + 1)) Sl.u = [Sl.u] from rfl, hs]
    cases k with
    | zero =>
      have e : Tr.allS m f = true := Tr.allS_small f hk
      simp [e, h0, Tr.bm, Tr.d]
    | succ k =>
      have hp : 2 ^ (k + 1) = 2 * 2 ^ k := by rw [Nat.pow_succ]; omega
      by_cases q : Tr.allS m f = true
      · simp [q, h0, Tr.bm, Tr.d]
      · have hm2 : ¬ m ≤ 1 := fun z => q (Tr.allS_small f z)
        have h1 := f_built n k ((m + 1) / 2) (fun i => f (2 * i)) (by omega) (by omega) (by omega) (by omega)
        have h2 := f_built n k (m / 2) (fun i => f (2 * i + 1)) (by omega) (by omega) (by omega) (by omega)
        have q : Tr.allS m f = false := by simpa using q
        simp [q, nmN_evens, nmN_odds, h1, h2, Tr.bm, Tr.d]
theorem f_needed : ∀ (n k m : Nat) (f : Nat → Str), k < n → 1 ≤ m → m ≤ 2 ^ k → m ≤ 64 → F__needed n [.tuple (nmN m f)] = .ok (.int (Tr.bm k m f).size)
  | 0, k, m, f, h, _, _, _ => by omega
  | n + 1, k, m, f, h, hm, hk, h64 => by
    have hs := fun s => same_comp m f hm h64 s
    show runD 2 (S__needed (F__needed n)) _ = _
    simp only [runD, S__needed, x_sCons, x_sIf, x_tV, List.map_cons, List.map_nil, List.cons_append, List.nil_append, List.length_cons, List.length_nil]
    rw [show List.replicate (2 - (0 + 1)) Sl.u = [Sl.u] from rfl, hs]
    cases k with
    | zero =>
      have e : Tr.allS m f = true := Tr.allS_small f hk
      simp [e, Tr.bm, Tr.size]
    | succ k =>
      have hp : 2 ^ (k + 1) = 2 * 2 ^ k := by rw [Nat.pow_succ]; omega
      by_cases q : Tr.allS m f = true
      · simp [q, Tr.bm, Tr.size]
      · have hm2 : ¬ m ≤ 1 := fun z => q (Tr.allS_small f z)
        have h1 := f_needed n k ((m + 1) / 2) (fun i => f (2 * i)) (by omega) (by omega) (by omega) (by omega)
        have h2 := f_needed n k (m / 2) (fun i => f (2 * i + 1)) (by omega) (by omega) (by omega) (by omega)
        have q : Tr.allS m f = false := by simpa using q
        simp [q, nmN_evens, nmN_odds, h1, h2, Tr.bm, Tr.size]
theorem f_cnames {m : Nat} {f : Nat → Str} (hm : 1 ≤ m) (h64 : m ≤ 64) (hn : ∀ i, okName (f i)) : F__check_names [.tuple (nmN m f)] = .ok .none := by
  have hc : compR (cStep (aName 1) tTrue (eCall F_is_name (eCons (eVar 1) (eNil))) [.f (.tuple (nmN m f)), .u]) (nmN m f) = .ok ((List.range m).map fun i => PyData.bool true) := by
    rw [show compR (cStep (aName 1) tTrue (eCall F_is_name (eCons (eVar 1) (eNil))) [.f (.tuple (nmN m f)), .u]) (nmN m f) = compR (cStep (aName 1) tTrue (eCall F_is_name (eCons (eVar 1) (eNil))) [.f (.tuple (nmN m f)), .u]) ((List.range m).map fun i => PyData.str (f i)) from rfl]
    refine compR_all _ _ _ fun i _ => ?_
    have : F_is_name [.str (f i)] = .ok (.bool true) := hn i
    simp [cStep, this]
  have hl := nmN_len m f
  have hf : fits m = true := fits_ok (by omega)
  have hb : bools ((List.range m).map fun i => PyData.bool true) = .ok ((List.range m).map fun _ => true) := by
    have := bools_map (bs := (List.range m).map fun _ => true)
    rw [List.map_map] at this
    exact this
  have ha : ((List.range m).map fun _ => true).all id = true := by rw [List.all_map]; simp
  have i1 : (1 : Int) ≤ m := by omega
  have i2 : (m : Int) ≤ 64 := by omega
  show runD 2 S__check_names _ = _
  simp at hb ha
  simp [runD, S__check_names, isaB, tyName, hl, hf, hc, dAll, hb, ha, i1, i2, hm]
theorem f_switches {m : Nat} {f : Nat → Str} (hm : 1 ≤ m) (h64 : m ≤ 64) (hn : ∀ i, okName (f i)) : F_switches_for [.tuple (nmN m f)] = .ok (.int (Tr.nd m f)) := by
  have h1 := f_cnames hm h64 hn
  have h2 := f_needed 16 6 m f (by omega) hm h64 h64
  rw [Tr.nd_eq f h64] at h2
  show runD 1 S_switches_for _ = _
  simp [runD, S_switches_for, h1, h2]
theorem f_treefor {m : Nat} {f : Nat → Str} (hm : 1 ≤ m) (h64 : m ≤ 64) (hn : ∀ i, okName (f i)) : F_tree_for [.tuple (nmN m f)] = .ok (Tr.bm 6 m f).d := by
  have h1 := f_cnames hm h64 hn
  have h2 := f_built 16 6 m f (by omega) hm h64 h64
  show runD 1 S_tree_for _ = _
  simp [runD, S_tree_for, h1, h2]
theorem bm_Ok {k m : Nat} {f : Nat → Str} (hk : k ≤ 6) (hm : 1 ≤ m) (h64 : m ≤ 64) (hp : m ≤ 2 ^ k) (hn : ∀ i, okName (f i)) : (Tr.bm k m f).Ok :=
  ⟨by have := Tr.bm_deep k m f; omega, by have := Tr.bm_size k m f hm hp; omega, Tr.bm_names _ _ _ _ hn⟩
end PQ

namespace PQ
open PySem PySem.Spec PyProof.Rows L2

/-! ### sets of rows of names -/
def wD (xs : List Str) : D := .tuple (xs.map .str)
def kW (xs : List Str) : NestedKey := .tup (xs.map .text)
theorem keyDs_strs : ∀ xs : List Str, keyDs (xs.map PyData.str) = some (xs.map .text)
  | [] => rfl
  | x :: xs => by rw [List.map_cons, List.map_cons, keyDs, keyDs_strs xs]; rfl
theorem depthAll_texts : ∀ xs : List Str, NestedKey.depthAll (xs.map NestedKey.text) = 0
  | [] => rfl
  | x :: xs => by rw [List.map_cons, NestedKey.depthAll, depthAll_texts xs]; rfl
theorem keyD_w (xs : List Str) : keyD (wD xs) = some (kW xs) := by
  unfold wD
  rw [keyD, keyDs_strs]; rfl
theorem tupKB_w (xs : List Str) : tupKB (wD xs) = true := by
  show (match keyDs (xs.map PyData.str) with
    | some ks => decide (NestedKey.depthAll ks ≤ 7)
    | none => false) = true
  rw [keyDs_strs]
  show decide (NestedKey.depthAll (xs.map NestedKey.text) ≤ 7) = true
  rw [depthAll_texts]; rfl
theorem noB_strs : ∀ xs : List Str, noBs (xs.map PyData.str) = true
  | [] => rfl
  | x :: xs => by
    show (true && noBs (xs.map PyData.str)) = true
    rw [noB_strs xs]; rfl
theorem noB_w (xs : List Str) : noB (wD xs) = true := noB_strs xs
theorem noBs_w : ∀ xss : List (List Str), noBs (xss.map wD) = true
  | [] => rfl
  | x :: xs => by
    show (noB (wD x) && noBs (xs.map wD)) = true
    rw [noB_w, noBs_w xs]; rfl
theorem kW_inj {a b : List Str} (h : kW a = kW b) : a = b := by
  unfold kW at h
  injection h with h
  exact (List.map_inj_right (fun _ _ e => by injection e)).mp h
theorem wD_inj {a b : List Str} (h : wD a = wD b) : a = b := by
  unfold wD at h
  injection h with h
  exact (List.map_inj_right (fun _ _ e => by injection e)).mp h
theorem of_map {α β : Type} {φ : α → β} : ∀ {ds : List β}, (∀ d ∈ ds, ∃ x, d = φ x) → ∃ xs : List α, ds = xs.map φ
  | [], _ => ⟨[], rfl⟩
  | d :: ds, h => by
    obtain ⟨x, hx⟩ := h d (List.mem_cons_self ..)
    obtain ⟨xs, hxs⟩ := of_map fun e he => h e (List.mem_cons_of_mem _ he)
    exact ⟨x :: xs, by rw [List.map_cons, hx, hxs]⟩
theorem nodup_len {α : Type} [DecidableEq α] : ∀ (l l' : List α), l.Nodup → (∀ x ∈ l, x ∈ l') → l.length ≤ l'.length
  | [], l', _, _ => Nat.zero_le _
  | a :: l, l', h, s => by
    obtain ⟨h1, h2⟩ := List.nodup_cons.mp h
    have ha := s a (List.mem_cons_self ..)
    have := nodup_len l (l'.erase a) h2 fun x hx => (List.mem_erase_of_ne (fun e => h1 (by rw [← e]; exact hx))).mpr (s x (List.mem_cons_of_mem _ hx))
    rw [List.length_erase_of_mem ha] at this
    have : 1 ≤ l'.length := List.length_pos_of_mem ha
    rw [List.length_cons]
    omega
theorem plainAll_w : ∀ xss : List (List Str), PyData.plainAll (xss.map wD) = true
  | [] => rfl
  | x :: xs => by
    have h : (wD x).plain = true := plain_strs x
    show ((wD x).plain && PyData.plainAll (xs.map wD)) = true
    rw [h, plainAll_w xs]; rfl
theorem alikeAll_strs : ∀ a b : List Str, PySem.W.alikeAll (a.map PyData.str) (b.map PyData.str) = true
  | [], _ => by simp [PySem.W.alikeAll]
  | _ :: _, [] => by simp [PySem.W.alikeAll]
  | x :: xs, y :: ys => by
    have := alikeAll_strs xs ys
    simp [PySem.W.alikeAll, PySem.W.alike, this]
theorem depth_strs : ∀ ss : List Str, PyData.depthAll (ss.map .str) ≤ 1
  | [] => by decide
  | s :: ss => by
    have := depth_strs ss
    show max (PyData.depth (.str s)) (PyData.depthAll (ss.map .str)) ≤ 1
    have e : PyData.depth (.str s) ≤ 1 := by unfold PyData.depth; omega
    omega
theorem depth_w (x : List Str) : (wD x).depth ≤ 2 := by
  have := depth_strs x
  show PyData.depth (.tuple _) ≤ 2
  unfold PyData.depth
  omega
theorem depthAll_w : ∀ xss : List (List Str), PyData.depthAll (xss.map wD) ≤ 2
  | [] => by decide
  | x :: xs => by
    have := depthAll_w xs
    have := depth_w x
    show max (wD x).depth (PyData.depthAll (xs.map wD)) ≤ 2
    omega
theorem sortset_w {xss : List (List Str)} (hl : xss.length ≤ 4000) (hs : (∀ x ∈ xss, x ≠ []) ∨ (∀ x ∈ xss, x = [])) : ∃ yss : List (List Str), dSortSet (.list (xss.map wD)) = .ok (.list (yss.map wD)) ∧ yss.Nodup ∧ ∀ x, x ∈ yss ↔ x ∈ xss := by
  have hk : keysT (xss.map wD) = xss.map kW := by
    unfold keysT
    rw [List.filterMap_map]
    have : (keyD ∘ wD) = fun x => some (kW x) := funext keyD_w
    rw [this, List.filterMap_eq_map']
  obtain ⟨zss, hz⟩ : ∃ zss : List (List Str), nubN (xss.map kW) = zss.map kW := of_map fun d hd => by
    obtain ⟨x, _, rfl⟩ := List.mem_map.mp (nubN_mem.mp hd)
    exact ⟨x, rfl⟩
  have zn : zss.Nodup := by
    have := nubN_nodup (xss.map kW)
    rw [hz] at this
    exact (List.pairwise_map.mp this).imp fun h e => h (by rw [e])
  have zm : ∀ x, x ∈ zss ↔ x ∈ xss := fun x => by
    have := nubN_mem (ks := xss.map kW) (j := kW x)
    rw [hz] at this
    constructor
    · intro h
      obtain ⟨y, hy, e⟩ := List.mem_map.mp (this.mp (List.mem_map_of_mem h))
      rw [← kW_inj e]; exact hy
    · intro h
      obtain ⟨y, hy, e⟩ := List.mem_map.mp (this.mpr (List.mem_map_of_mem h))
      rw [← kW_inj e]; exact hy
  have e : nubD (xss.map wD) = zss.map wD := by
    unfold nubD
    rw [hk, hz, List.map_map]
    congr 1
    funext x
    exact key_back (wD x) (kW x) (noB_w x) (keyD_w x)
  have pm : (sortL (zss.map wD)).Perm (zss.map wD) := List.mergeSort_perm _ _
  obtain ⟨yss, hy⟩ : ∃ yss : List (List Str), sortL (zss.map wD) = yss.map wD := of_map fun d hd => by
    obtain ⟨x, _, rfl⟩ := List.mem_map.mp (pm.mem_iff.mp hd)
    exact ⟨x, rfl⟩
  rw [hy] at pm
  have zl : zss.length ≤ xss.length := nodup_len zss xss zn fun x hx => (zm x).mp hx
  have so : sortOk (zss.map wD) = true := by
    unfold sortOk
    have h1 : fits (zss.map wD).length = true := fits_ok (by rw [List.length_map]; omega)
    have h2 : allAlikeB (zss.map wD) = true := by
      unfold allAlikeB
      rw [List.all_eq_true]
      intro d hd
      rw [List.all_eq_true]
      intro d' hd'
      obtain ⟨x, _, rfl⟩ := List.mem_map.mp hd
      obtain ⟨y, _, rfl⟩ := List.mem_map.mp hd'
      unfold wD
      rw [PySem.W.alike]
      exact alikeAll_strs x y
    have h3 : ((zss.map wD).all tupNE || (zss.map wD).all notTN || (decide ((zss.map wD).length ≤ 1) && (zss.map wD).all fun d => !isNone d)) = true := by
      rcases hs with hs | hs
      · have : (zss.map wD).all tupNE = true := by
          rw [List.all_eq_true]
          intro d hd
          obtain ⟨x, hx, rfl⟩ := List.mem_map.mp hd
          have := hs x ((zm x).mp hx)
          cases x with
          | nil => exact absurd rfl this
          | cons a x => rfl
        rw [this]; rfl
      · have h1 : (zss.map wD).length ≤ 1 := by
          rw [List.length_map]
          exact nodup_len zss [[]] zn fun x hx => by rw [hs x ((zm x).mp hx)]; simp
        have h2 : (zss.map wD).all (fun d => !isNone d) = true := by
          rw [List.all_eq_true]
          intro d hd
          obtain ⟨x, hx, rfl⟩ := List.mem_map.mp hd
          rfl
        rw [decide_eq_true h1, h2]; simp
    have h4 : decide (PyData.depthAll (zss.map wD) ≤ 60) = true := decide_eq_true (by have := depthAll_w zss; omega)
    rw [h1, plainAll_w, h2, h3, h4]; rfl
  refine ⟨yss, ?_, ?_, fun x => ?_⟩
  · show guardR _ _ = _
    rw [e, hy]
    refine guardR_of ?_ _
    have s1 : setOk (xss.map wD) = true := by
      unfold setOk
      rw [Bool.and_eq_true, List.length_map]
      refine ⟨?_, decide_eq_true (by omega)⟩
      rw [List.all_eq_true]
      intro d hd
      obtain ⟨y, _, rfl⟩ := List.mem_map.mp hd
      exact tupKB_w y
    rw [s1, noBs_w, so, decide_eq_true (by rw [List.length_map]; exact hl)]; rfl
  · have : (yss.map wD).Nodup := pm.nodup_iff.mpr (List.pairwise_map.mpr (zn.imp fun h e => h (wD_inj e)))
    exact (List.pairwise_map.mp this).imp fun h e => h (by rw [e])
  · rw [← zm x]
    constructor
    · intro h
      obtain ⟨y, hy, e⟩ := List.mem_map.mp (pm.mem_iff.mp (List.mem_map_of_mem h))
      rw [← wD_inj e]; exact hy
    · intro h
      obtain ⟨y, hy, e⟩ := List.mem_map.mp (pm.mem_iff.mpr (List.mem_map_of_mem h))
      rw [← wD_inj e]; exact hy
/-! ### all rows of trees of a size -/
def fn (xs : List Str) (i : Nat) : Str := xs.getD i (Str.ofString "")
def inter (m : Nat) (xs ys : List Str) : List Str := (List.range m).map (Tr.mix (fn xs) (fn ys))
theorem fn_get {xs : List Str} {i : Nat} (h : i < xs.length) : xs[i]? = some (fn xs i) := by
  unfold fn
  rw [List.getD_eq_getElem?_getD, List.getElem?_eq_getElem h]; rfl
theorem fn_mem {xs : List Str} {i : Nat} (h : i < xs.length) : fn xs i ∈ xs := List.mem_of_getElem? (fn_get h)
theorem fn_range {m : Nat} (f : Nat → Str) {i : Nat} (h : i < m) : fn ((List.range m).map f) i = f i := by
  unfold fn
  rw [List.getD_eq_getElem?_getD, List.getElem?_map, List.getElem?_range h]; rfl
theorem fn_at {xs : List Str} {i : Nat} (h : i < xs.length) : atI (xs.map PyData.str) (i : Int) = some (.str (fn xs i)) :=
  atI_nat (by rw [List.getElem?_map, fn_get h]; rfl)
theorem fn_list (xs : List Str) : (List.range xs.length).map (fn xs) = xs := by
  apply List.ext_getElem?
  intro i
  by_cases h : i < xs.length
  · rw [List.getElem?_map, List.getElem?_range h, fn_get h]; rfl
  · rw [List.getElem?_eq_none (by rw [List.length_map, List.length_range]; omega), List.getElem?_eq_none (by omega)]
def allW (kinds : List Str) : Nat → List (List Str)
  | 0 => [[]]
  | m + 1 => kinds.flatMap fun a => (allW kinds m).map (a :: ·)
theorem allW_len {kinds : List Str} (hk : kinds.length ≤ 3) : ∀ m : Nat, (allW kinds m).length ≤ 3 ^ m
  | 0 => Nat.le_refl _
  | m + 1 => by
    have ih := allW_len hk m
    rw [allW, List.length_flatMap]
    have : (kinds.map fun a => ((allW kinds m).map (a :: ·)).length) = kinds.map fun _ => (allW kinds m).length := by
      congr 1
      funext a
      rw [List.length_map]
    rw [this, List.map_const', List.sum_replicate_nat, Nat.pow_succ, Nat.mul_comm]
    exact Nat.mul_le_mul ih hk
theorem allW_mem {kinds : List Str} : ∀ {m : Nat} {x : List Str}, x.length = m → (∀ a ∈ x, a ∈ kinds) → x ∈ allW kinds m
  | 0, x, h, _ => by rw [List.eq_nil_of_length_eq_zero h]; exact List.mem_singleton.mpr rfl
  | m + 1, [], h, _ => by cases h
  | m + 1, a :: x, h, hk => by
    rw [allW, List.mem_flatMap]
    exact ⟨a, hk a (List.mem_cons_self ..), List.mem_map_of_mem (allW_mem (by simpa using h) fun b hb => hk b (List.mem_cons_of_mem _ hb))⟩
structure RowsOk (s m : Nat) (kinds : List Str) (xss : List (List Str)) : Prop where
  sub : ∀ x ∈ xss, x.length = m ∧ (∀ a ∈ x, a ∈ kinds) ∧ (1 ≤ m → Tr.nd m (fn x) ≤ s)
  all : ∀ x, x.length = m → (∀ a ∈ x, a ∈ kinds) → Tr.nd m (fn x) = s → x ∈ xss
  few : xss.length ≤ 3 ^ m
theorem inter_len (m : Nat) (xs ys : List Str) : (inter m xs ys).length = m := by unfold inter; simp
theorem inter_mem {m : Nat} {xs ys kinds : List Str} (hx : xs.length = (m + 1) / 2) (hy : ys.length = m / 2) (h1 : ∀ a ∈ xs, a ∈ kinds) (h2 : ∀ a ∈ ys, a ∈ kinds) : ∀ a ∈ inter m xs ys, a ∈ kinds := by
  intro a ha
  obtain ⟨i, hi, rfl⟩ := List.mem_map.mp ha
  have hi := List.mem_range.mp hi
  unfold Tr.mix
  split
  · exact h1 _ (fn_mem (by omega))
  · exact h2 _ (fn_mem (by omega))
theorem inter_nd {m : Nat} (hm : 1 ≤ m) (xs ys : List Str) : Tr.nd m (fn (inter m xs ys)) ≤ 1 + Tr.nd ((m + 1) / 2) (fn xs) + Tr.nd (m / 2) (fn ys) := by
  rw [Tr.nd_ext (f := fn (inter m xs ys)) (g := Tr.mix (fn xs) (fn ys)) hm fun i hi => fn_range _ hi]
  exact Tr.nd_mix
/-- the even ones, the odd ones -/
def evW (x : List Str) : List Str := (List.range ((x.length + 1) / 2)).map fun i => fn x (2 * i)
def odW (x : List Str) : List Str := (List.range (x.length / 2)).map fun i => fn x (2 * i + 1)
theorem evW_mem {x kinds : List Str} (h : ∀ a ∈ x, a ∈ kinds) : ∀ a ∈ evW x, a ∈ kinds := by
  intro a ha
  obtain ⟨i, hi, rfl⟩ := List.mem_map.mp ha
  have hi := List.mem_range.mp hi
  exact h _ (fn_mem (by omega))
theorem odW_mem {x kinds : List Str} (h : ∀ a ∈ x, a ∈ kinds) : ∀ a ∈ odW x, a ∈ kinds := by
  intro a ha
  obtain ⟨i, hi, rfl⟩ := List.mem_map.mp ha
  have hi := List.mem_range.mp hi
  exact h _ (fn_mem (by omega))
theorem inter_self (x : List Str) : inter x.length (evW x) (odW x) = x := by
  rw [← fn_list x]
  rw [List.length_map, List.length_range]
  unfold inter
  rw [List.map_inj_left]
  intro i hi
  have hi := List.mem_range.mp hi
  rw [fn_list x]
  unfold Tr.mix
  split
  · unfold evW
    rw [fn_range _ (by omega), show 2 * (i / 2) = i by omega]
  · unfold odW
    rw [fn_range _ (by omega), show 2 * (i / 2) + 1 = i by omega]
theorem nd_self {x : List Str} {s : Nat} (h : Tr.nd x.length (fn x) = s + 1) : 2 ≤ x.length ∧ Tr.nd ((x.length + 1) / 2) (fn (evW x)) + Tr.nd (x.length / 2) (fn (odW x)) = s := by
  cases q : Tr.allS x.length (fn x) with
  | true => rw [Tr.nd_same q] at h; cases h
  | false =>
    have hm : 2 ≤ x.length := by
      rcases Nat.lt_or_ge x.length 2 with l | l
      · rw [Tr.allS_small _ (by omega)] at q; cases q
      · exact l
    refine ⟨hm, ?_⟩
    rw [Tr.nd_step q] at h
    have e1 : Tr.nd ((x.length + 1) / 2) (fn (evW x)) = Tr.nd ((x.length + 1) / 2) (fun i => fn x (2 * i)) := Tr.nd_ext (by omega) fun i hi => fn_range _ hi
    have e2 : Tr.nd (x.length / 2) (fn (odW x)) = Tr.nd (x.length / 2) (fun i => fn x (2 * i + 1)) := Tr.nd_ext (by omega) fun i hi => fn_range _ hi
    rw [e1, e2]
    omega
end PQ

namespace PQ
open PySem PySem.Spec PyProof.Rows L2

abbrev interE : EV := eIte (tV (e2 dEq (e2 dMod (eVar 10) (eInt 2)) (eInt 0))) (e2 dIx (eVar 5) (e2 dFdiv (eVar 10) (eInt 2))) (e2 dIx (eVar 9) (e2 dFdiv (eVar 10) (eInt 2)))
theorem inter_comp {m : Nat} {xs ys : List Str} (hm : m ≤ 64) (hx : xs.length = (m + 1) / 2) (hy : ys.length = m / 2) (a0 a2 a3 a4 a6 a7 a8 : Sl) :
    compR (cStep (aName 10) tTrue interE [a0, .f (.int m), a2, a3, a4, .f (.tuple (xs.map .str)), a6, a7, a8, .f (.tuple (ys.map .str)), .u]) (rgD 0 m) = .ok ((inter m xs ys).map .str) := by
  rw [rgD_nat, show (inter m xs ys).map PyData.str = (List.range m).map fun k => PyData.str (Tr.mix (fn xs) (fn ys) k) by unfold inter; rw [List.map_map]; rfl]
  refine compR_all _ _ _ fun k hk => ?_
  have hk := List.mem_range.mp hk
  have hd : divOk 2 = true := by rfl
  have h0 : decide ((k : Int) % 2 = 0) = decide (k % 2 = 0) := by congr 1; apply propext; omega
  have h1 : ((k / 2 : Nat) : Int) = (k : Int) / 2 := by omega
  by_cases q : k % 2 = 0
  · have q1 := fn_at (xs := xs) (i := k / 2) (by omega)
    rw [h1] at q1
    have q2 : (k : Int) % 2 = 0 := by omega
    have q3 : Tr.mix (fn xs) (fn ys) k = fn xs (k / 2) := by unfold Tr.mix; rw [if_pos q]
    simp [cStep, hd, q2, q1, q3]
  · have q1 := fn_at (xs := ys) (i := k / 2) (by omega)
    rw [h1] at q1
    have q2 : (k : Int) % 2 = 1 := by omega
    have q3 : Tr.mix (fn xs) (fn ys) k = fn ys (k / 2) := by unfold Tr.mix; rw [if_neg q]
    simp [cStep, hd, q2, q1, q3]
theorem inters_comp {m : Nat} {xs : List Str} {twos : List (List Str)} (hm : m ≤ 64) (hx : xs.length = (m + 1) / 2) (hy : ∀ y ∈ twos, y.length = m / 2) (a0 a2 a3 a4 a6 a7 a8 : Sl) :
    compR (cStep (aName 9) tTrue (eA dTuple (eCons (eComp (iRg1 (eVar 1)) (aName 10) (tTrue) interE [10]) (eNil))) [a0, .f (.int m), a2, a3, a4, .f (.tuple (xs.map .str)), a6, a7, a8, .u, .u]) (twos.map wD) = .ok ((twos.map fun y => inter m xs y).map wD) := by
  rw [List.map_map]
  refine compR_all _ _ _ fun y hyy => ?_
  have h := fun b0 b2 b3 b4 b6 b7 b8 => inter_comp (xs := xs) (ys := y) hm hx (hy y hyy) b0 b2 b3 b4 b6 b7 b8
  have hb : big62 (m : Int) = true := big62_ok (by omega) (by omega)
  have hf : fits m = true := fits_ok (by omega)
  simp [cStep, hb, h, dTuple, wD, rgD_len, hf, inter_len]
theorem rows_1 {self : List D → R D} {S K : D} {m : Nat} {secs twos : List (List Str)} (h2 : dSortSet (.list (secs.map wD)) = .ok (.list (twos.map wD))) (hm : m ≤ 64) (ht : ∀ y ∈ twos, y.length = m / 2) (hl : twos.length ≤ 1000) :
    ∀ (ones found : List (List Str)) (a4 a5 a6 : Sl), (∀ x ∈ ones, x.length = (m + 1) / 2) → found.length + ones.length * twos.length ≤ 100000 → ∃ b4 b5 b6, forL (aName 5) (B__law_rows_1 self) [4, 5, 6, 8, 9, 10] (ones.map wD) [.f S, .f (.int m), .f K, .f (.list (found.map wD)), a4, a5, a6, .f (.list (secs.map wD)), .u, .u, .u] = .nx [.f S, .f (.int m), .f K, .f (.list ((found ++ ones.flatMap fun x => twos.map fun y => inter m x y).map wD)), b4, b5, b6, .f (.list (secs.map wD)), .u, .u, .u]
  | [], found, a4, a5, a6, _, _ => ⟨a4, a5, a6, by
    rw [List.flatMap_nil, List.append_nil]; rfl⟩
  | x :: ones, found, a4, a5, a6, h, hn => by
    have hn' : (x :: ones).length * twos.length = ones.length * twos.length + twos.length := by rw [List.length_cons, Nat.add_mul, Nat.one_mul]
    obtain ⟨b4, b5, b6, ih⟩ := rows_1 h2 hm ht hl ones (found ++ twos.map fun y => inter m x y) .u .u .u (fun y hy => h y (List.mem_cons_of_mem _ hy)) (by rw [List.length_append, List.length_map]; omega)
    refine ⟨b4, b5, b6, ?_⟩
    rw [List.flatMap_cons, ← List.append_assoc, List.map_cons]
    have hc := fun c0 c2 c3 c4 c6 c7 c8 => inters_comp (xs := x) (twos := twos) hm (h x (List.mem_cons_self ..)) ht c0 c2 c3 c4 c6 c7 c8
    have hf : fits (found.length + twos.length) = true := fits_ok (by rw [List.length_cons] at hn'; omega)
    have hf2 : fits twos.length = true := fits_ok (by omega)
    refine forL_next [.f S, .f (.int m), .f K, .f (.list (found.map wD)), a4, .f (wD x), a6, .f (.list (secs.map wD)), .u, .u, .u] [.f S, .f (.int m), .f K, .f (.list ((found ++ twos.map fun y => inter m x y).map wD)), a4, .f (wD x), a6, .f (.list (secs.map wD)), .u, .u, .u] (by rfl) ?_ (by rfl) ih
    simp only [List.map_append]
    have hc : ∀ c0 c2 c3 c4 c6 c7 c8, compR (cStep (aName 9) tTrue (eA dTuple (eCons (eComp (iRg1 (eVar 1)) (aName 10) (tTrue) interE [10]) (eNil))) [c0, .f (.int m), c2, c3, c4, .f (wD x), c6, c7, c8, .u, .u]) (twos.map wD) = .ok ((twos.map fun y => inter m x y).map wD) := hc
    generalize hN : (twos.map fun y => inter m x y).map wD = NN at *
    have e2 : NN.length = twos.length := by rw [← hN, List.length_map, List.length_map]
    generalize hS : secs.map wD = SS at *
    generalize hF : found.map wD = FF at *
    have e1 : FF.length = found.length := by rw [← hF, List.length_map]
    generalize hT : twos.map wD = TT at *
    have e3 : TT.length = twos.length := by rw [← hT, List.length_map]
    simp [B__law_rows_1, h2, hc, e1, e2, e3, hf, hf2]
structure RInv (s m : Nat) (kinds : List Str) (i : Nat) (found : List (List Str)) : Prop where
  sub : ∀ x ∈ found, x.length = m ∧ (∀ a ∈ x, a ∈ kinds) ∧ Tr.nd m (fn x) ≤ s + 1
  all : ∀ x, x.length = m → (∀ a ∈ x, a ∈ kinds) → Tr.nd m (fn x) = s + 1 → Tr.nd ((m + 1) / 2) (fn (evW x)) < i → x ∈ found
  few : found.length ≤ i * 3 ^ m
theorem rInv_step {s m i : Nat} {kinds : List Str} {found xss yss ones twos : List (List Str)} (hi : i ≤ s) (hm : 1 ≤ m) (I : RInv s m kinds i found) (R1 : RowsOk i ((m + 1) / 2) kinds xss) (R2 : RowsOk (s - i) (m / 2) kinds yss)
    (n1 : ones.Nodup) (m1 : ∀ x, x ∈ ones ↔ x ∈ xss) (n2 : twos.Nodup) (m2 : ∀ x, x ∈ twos ↔ x ∈ yss) : RInv s m kinds (i + 1) (found ++ ones.flatMap fun x => twos.map fun y => inter m x y) where
  sub := fun z hz => by
    rcases List.mem_append.mp hz with hz | hz
    · exact I.sub z hz
    · obtain ⟨x, hx, hz⟩ := List.mem_flatMap.mp hz
      obtain ⟨y, hy, rfl⟩ := List.mem_map.mp hz
      obtain ⟨a1, a2, a3⟩ := R1.sub x ((m1 x).mp hx)
      obtain ⟨b1, b2, b3⟩ := R2.sub y ((m2 y).mp hy)
      refine ⟨inter_len _ _ _, inter_mem a1 b1 a2 b2, ?_⟩
      have := inter_nd hm x y
      have := a3 (by omega)
      have : Tr.nd (m / 2) (fn y) ≤ s - i := by
        rcases Nat.lt_or_ge (m / 2) 1 with l | l
        · rw [Tr.nd_same (Tr.allS_small _ (by omega))]; omega
        · exact b3 l
      omega
  all := fun x h1 h2 h3 h4 => by
    rw [List.mem_append]
    rcases Nat.lt_or_ge (Tr.nd ((m + 1) / 2) (fn (evW x))) i with l | l
    · exact .inl (I.all x h1 h2 h3 l)
    · right
      subst h1
      obtain ⟨q1, q2⟩ := nd_self h3
      have e1 : (evW x).length = (x.length + 1) / 2 := by unfold evW; simp
      have e2 : (odW x).length = x.length / 2 := by unfold odW; simp
      rw [List.mem_flatMap]
      refine ⟨evW x, (m1 _).mpr (R1.all _ e1 (evW_mem h2) (by omega)), ?_⟩
      rw [List.mem_map]
      exact ⟨odW x, (m2 _).mpr (R2.all _ e2 (odW_mem h2) (by omega)), inter_self x⟩
  few := by
    have a := nodup_len ones xss n1 fun x hx => (m1 x).mp hx
    have b := nodup_len twos yss n2 fun x hx => (m2 x).mp hx
    have c := I.few
    have d := Nat.mul_le_mul (Nat.le_trans a R1.few) (Nat.le_trans b R2.few)
    rw [← Nat.pow_add, show (m + 1) / 2 + m / 2 = m by omega] at d
    rw [List.length_append, List.length_flatMap]
    have e : (ones.map fun x => (twos.map fun y => inter m x y).length) = ones.map fun _ => twos.length := by
      congr 1
      funext x
      rw [List.length_map]
    rw [e, List.map_const', List.sum_replicate_nat, Nat.add_mul, Nat.one_mul]
    omega
theorem ne_of_len {m : Nat} {xss : List (List Str)} (h : ∀ x ∈ xss, x.length = m) : (∀ x ∈ xss, x ≠ []) ∨ (∀ x ∈ xss, x = []) := by
  cases m with
  | zero => exact .inr fun x hx => List.eq_nil_of_length_eq_zero (h x hx)
  | succ m => exact .inl fun x hx e => by have := h x hx; rw [e] at this; cases this
theorem p3 {m : Nat} (h : m ≤ 3) : 3 ^ m ≤ 27 := by
  have : 3 ^ m ≤ 3 ^ 3 := Nat.pow_le_pow_right (by omega) h
  omega
theorem p36 {m : Nat} (h : m ≤ 6) : 3 ^ m ≤ 729 := by
  have : 3 ^ m ≤ 3 ^ 6 := Nat.pow_le_pow_right (by omega) h
  omega
theorem rows_2 {self : List D → R D} {s m : Nat} {kinds : List Str} (hs : s ≤ 4) (hm : 1 ≤ m) (hm6 : m ≤ 6)
    (hself : ∀ l m' : Nat, l ≤ s → m' ≤ 3 → ∃ xss, self [.int l, .int m', .list (kinds.map .str)] = .ok (.list (xss.map wD)) ∧ RowsOk l m' kinds xss) :
    ∃ found, forL (aName 4) (B__law_rows_2 self) [4, 5, 6, 7, 8, 9, 10] (rgD 0 ((s + 1 : Nat) : Int)) [.f (.int ((s + 1 : Nat) : Int)), .f (.int m), .f (.list (kinds.map .str)), .f (.list []), .u, .u, .u, .u, .u, .u, .u] = .nx [.f (.int ((s + 1 : Nat) : Int)), .f (.int m), .f (.list (kinds.map .str)), .f (.list (found.map wD)), .u, .u, .u, .u, .u, .u, .u] ∧ RInv s m kinds (s + 1) found := by
  have lp := forL_run (A := aName 4) (B := B__law_rows_2 self) (ks := [4, 5, 6, 7, 8, 9, 10]) (fun i ρ => ∃ found, ρ = [.f (.int ((s + 1 : Nat) : Int)), .f (.int m), .f (.list (kinds.map .str)), .f (.list (found.map wD)), .u, .u, .u, .u, .u, .u, .u] ∧ RInv s m kinds i found)
    (rgD 0 ((s + 1 : Nat) : Int)) 0 [.f (.int ((s + 1 : Nat) : Int)), .f (.int m), .f (.list (kinds.map .str)), .f (.list []), .u, .u, .u, .u, .u, .u, .u]
    ⟨[], rfl, RInv.mk (fun x hx => absurd hx List.not_mem_nil) (fun x _ _ _ h => absurd h (Nat.not_lt_zero _)) (Nat.zero_le _)⟩ (by
      rintro i d ρ hd ⟨found, rfl, I⟩
      obtain ⟨rfl, hi⟩ := rgD_get hd
      simp only [Nat.zero_add] at I ⊢
      have hi : i ≤ s := by omega
      obtain ⟨xss, f1, R1⟩ := hself i ((m + 1) / 2) hi (by omega)
      obtain ⟨yss, f2, R2⟩ := hself (s - i) (m / 2) (by omega) (by omega)
      have w1 := R1.few
      have w2 := R2.few
      have w3 := p3 (m := (m + 1) / 2) (by omega)
      have w4 := p3 (m := m / 2) (by omega)
      obtain ⟨ones, g1, n1, m1⟩ := sortset_w (xss := xss) (by omega) (ne_of_len fun x hx => (R1.sub x hx).1)
      obtain ⟨twos, g2, n2, m2⟩ := sortset_w (xss := yss) (by omega) (ne_of_len fun x hx => (R2.sub x hx).1)
      have l1 := nodup_len ones xss n1 fun x hx => (m1 x).mp hx
      have l2 := nodup_len twos yss n2 fun x hx => (m2 x).mp hx
      have w5 := I.few
      have w6 := p36 hm6
      have w7 : i * 3 ^ m ≤ 4 * 729 := Nat.mul_le_mul (by omega) w6
      have w8 : ones.length * twos.length ≤ 27 * 27 := Nat.mul_le_mul (by omega) (by omega)
      obtain ⟨b4, b5, b6, hl⟩ := rows_1 (self := self) (S := .int ((s + 1 : Nat) : Int)) (K := .list (kinds.map .str)) (m := m) g2 (by omega) (fun y hy => (R2.sub y ((m2 y).mp hy)).1) (by omega) ones found .u .u .u (fun x hx => (R1.sub x ((m1 x).mp hx)).1) (by omega)
      have In := rInv_step hi hm I R1 R2 n1 m1 n2 m2
      generalize (found ++ ones.flatMap fun x => twos.map fun y => inter m x y) = found2 at *
      refine ⟨_, [.f (.int ((s + 1 : Nat) : Int)), .f (.int m), .f (.list (kinds.map .str)), .f (.list (found2.map wD)), b4, b5, b6, .f (.list (yss.map wD)), .u, .u, .u], rfl, .inl ?_, found2, rfl, In⟩
      have hdv : divOk 2 = true := by rfl
      have e1 : (((m + 1) / 2 : Nat) : Int) = ((m : Int) + 1) / 2 := by omega
      have e2 : ((m / 2 : Nat) : Int) = (m : Int) / 2 := by omega
      have e3 : ((s - i : Nat) : Int) = ((s + 1 : Nat) : Int) - 1 - (i : Int) := by omega
      rw [e1] at f1
      rw [e2, e3] at f2
      have hf : fits ones.length = true := fits_ok (by omega)
      generalize ((s + 1 : Nat) : Int) = S1 at *
      generalize hX : xss.map wD = XX at *
      generalize hY : yss.map wD = YY at *
      generalize hO : ones.map wD = OO at *
      have e4 : OO.length = ones.length := by rw [← hO, List.length_map]
      simp [B__law_rows_2, f1, f2, hdv, g1, e4, hf, hl])
  obtain ⟨ρ', h1, found, rfl, In⟩ := lp
  rw [rgD_len] at In
  exact ⟨found, h1, by rwa [show 0 + (((s + 1 : Nat) : Int) - 0).toNat = s + 1 by omega] at In⟩
theorem dMulT_rep (a : D) {m : Nat} (h1 : 1 ≤ m) (h2 : m ≤ 64) : dMulT (.tuple [a]) (.int m) = .ok (.tuple (List.replicate m a)) := by
  rcases Nat.lt_or_ge 1 m with l | l
  · rw [x_dMulT _ _ (by omega)]
    show guardR _ _ = _
    have : (List.replicate (m : Int).toNat [a]).flatten = List.replicate m a := by
      rw [Int.toNat_natCast]
      clear h1 h2 l
      induction m with
      | zero => rfl
      | succ m ih => rw [List.replicate_succ, List.flatten_cons, ih, List.replicate_succ]; rfl
    rw [this]
    refine guardR_of ?_ _
    have e1 : decide ((2 : Int) ≤ m) = true := decide_eq_true (by omega)
    have e2 : decide ((m : Int) ≤ 1000) = true := decide_eq_true (by omega)
    rw [e1, e2]; rfl
  · have : m = 1 := by omega
    subst this
    rfl
theorem f_rows {kinds : List Str} (hk : kinds.length ≤ 3) : ∀ (n s m : Nat), s < n → s ≤ 5 → m ≤ 6 → ∃ xss, F__law_rows n [.int s, .int m, .list (kinds.map .str)] = .ok (.list (xss.map wD)) ∧ RowsOk s m kinds xss
  | 0, s, m, h, _, _ => by omega
  | n + 1, s, m, hn, hs, hm => by
    rcases Nat.eq_zero_or_pos m with rfl | m1
    · refine ⟨[[]], ?_, ⟨fun x hx => ?_, fun x hx _ _ => ?_, by decide⟩⟩
      · show runD 11 (S__law_rows (F__law_rows n)) _ = _
        have : [([] : List Str)].map wD = [.tuple []] := rfl
        simp only [this]
        simp [runD, S__law_rows]
      · rw [List.mem_singleton.mp hx]
        exact ⟨rfl, (fun a ha => absurd ha List.not_mem_nil), fun h => by omega⟩
      · rw [List.eq_nil_of_length_eq_zero hx]; exact List.mem_singleton.mpr rfl
    have m0 : ¬ m = 0 := by omega
    cases s with
    | zero =>
      refine ⟨kinds.map fun a => List.replicate m a, ?_, ⟨fun x hx => ?_, fun x hx hx2 hx3 => ?_, ?_⟩⟩
      · have hc : ∀ a c d e f g h j k : Sl, compR (cStep (aName 8) tTrue (e2 dMulT (eTup (eCons (eVar 8) (eNil))) (eVar 1)) [a, .f (.int m), c, d, e, f, g, h, .u, j, k]) (kinds.map PyData.str) = .ok ((kinds.map fun a => List.replicate m a).map wD) := by
          intro a c d e f g h j k
          rw [List.map_map]
          refine compR_all _ _ _ fun x _ => ?_
          have := dMulT_rep (.str x) m1 (by omega : m ≤ 64)
          simp [cStep, this, wD]
        have hf : fits kinds.length = true := fits_ok (by omega)
        show runD 11 (S__law_rows (F__law_rows n)) _ = _
        generalize hX : (kinds.map fun a => List.replicate m a).map wD = XX at *
        simp [runD, S__law_rows, m0, hf, hc]
      · obtain ⟨a, ha, rfl⟩ := List.mem_map.mp hx
        refine ⟨List.length_replicate, fun b hb => by rw [List.eq_of_mem_replicate hb]; exact ha, fun _ => ?_⟩
        rw [Tr.nd_same (Tr.allS_iff.mpr fun i hi => ?_)]
        · exact Nat.le_refl _
        · have key : ∀ i, i < m → fn (List.replicate m a) i = a := fun i hi => List.eq_of_mem_replicate (fn_mem (by rw [List.length_replicate]; exact hi))
          rw [key i hi, key 0 m1]
      · rw [List.mem_map]
        subst hx
        have q : Tr.allS x.length (fn x) = true := by
          cases q : Tr.allS x.length (fn x) with
          | true => rfl
          | false => rw [Tr.nd_step q] at hx3; omega
        rw [Tr.allS_iff] at q
        refine ⟨fn x 0, hx2 _ (fn_mem m1), ?_⟩
        have e := fn_list x
        rw [← e]
        rw [List.length_map, List.length_range]
        apply List.ext_getElem?
        intro i
        rcases Nat.lt_or_ge i x.length with l | l
        · rw [List.getElem?_replicate, if_pos l, List.getElem?_map, List.getElem?_range l, e]
          show _ = some (fn x i)
          rw [q i l]
        · rw [List.getElem?_eq_none (by rw [List.length_replicate]; omega), List.getElem?_eq_none (by rw [List.length_map, List.length_range]; omega)]
      · rw [List.length_map]
        have : 3 ^ 1 ≤ 3 ^ m := Nat.pow_le_pow_right (by omega) m1
        omega
    | succ s =>
      obtain ⟨found, hl, In⟩ := rows_2 (self := F__law_rows n) (s := s) (m := m) (kinds := kinds) (by omega) m1 hm fun l m' h1 h2 => f_rows hk n l m' (by omega) (by omega) (by omega)
      have w6 := p36 hm
      have w5 := In.few
      have w7 : (s + 1) * 3 ^ m ≤ 5 * 729 := Nat.mul_le_mul (by omega) w6
      obtain ⟨xss, g1, n1, q1⟩ := sortset_w (xss := found) (by omega) (ne_of_len fun x hx => (In.sub x hx).1)
      refine ⟨xss, ?_, ⟨fun x hx => ?_, fun x hx hx2 hx3 => ?_, ?_⟩⟩
      · have hb : big62 ((s + 1 : Nat) : Int) = true := big62_ok (by omega) (by omega)
        have z0 : ¬ ((s + 1 : Nat) : Int) = 0 := by omega
        show runD 11 (S__law_rows (F__law_rows n)) _ = _
        generalize ((s + 1 : Nat) : Int) = S1 at *
        simp [runD, S__law_rows, m0, z0, hb, hl, g1]
      · obtain ⟨a1, a2, a3⟩ := In.sub x ((q1 x).mp hx)
        exact ⟨a1, a2, fun _ => a3⟩
      · refine (q1 x).mpr (In.all x hx hx2 hx3 ?_)
        subst hx
        obtain ⟨_, q2⟩ := nd_self hx3
        omega
      · refine Nat.le_trans (nodup_len xss (allW kinds m) n1 fun x hx => ?_) (allW_len hk m)
        obtain ⟨a1, a2, _⟩ := In.sub x ((q1 x).mp hx)
        exact allW_mem a1 a2
end PQ

namespace PQ
open PySem PySem.Spec PyProof.Rows L2
open Tr (Per IsSh perB)

theorem Tr.plain_d : ∀ t : Tr, t.d.plain = true
  | .e n => rfl
  | .s l a b => by
    have ha := plain_d a
    have hb := plain_d b
    simp [Tr.d, PyData.plain, PyData.plainAll, ha, hb]
theorem Tr.depth_d : ∀ t : Tr, t.d.depth ≤ 1 + t.deep
  | .e n => by simp [Tr.d, PyData.depth, PyData.depthAll, Tr.deep]
  | .s l a b => by
    have ha := depth_d a
    have hb := depth_d b
    simp only [Tr.d, PyData.depth, PyData.depthAll, Tr.deep]
    omega
theorem dNe_tr {t : Tr} (h : t.deep ≤ 50) : dNe t.d t.d = .ok (.bool false) := dNe_self t.plain_d (by have := t.depth_d; omega)
theorem eqv_strs : ∀ a b : List Str, PyData.eqvAll (a.map PyData.str) (b.map PyData.str) = decide (a = b)
  | [], [] => by simp [PyData.eqvAll]
  | [], b :: bs => by simp [PyData.eqvAll]
  | a :: as, [] => by simp [PyData.eqvAll]
  | a :: as, b :: bs => by
    have ih := eqv_strs as bs
    rw [List.map_cons, List.map_cons, PyData.eqvAll, ih]
    rw [show PyData.eqv (.str a) (.str b) = (a == b) by rw [PyData.eqv]]
    by_cases h : a = b
    · subst h; simp
    · simp [h]
theorem eqv_w (a b : List Str) : PyData.eqv (wD a) (wD b) = decide (a = b) := by
  unfold wD
  rw [PyData.eqv]
  exact eqv_strs a b
theorem plain_w (a : List Str) : (wD a).plain = true := plain_strs a
theorem eqOk_w (a b : List Str) : eqOk (wD a) (wD b) = true := eqOk_of (plain_w a) (plain_w b) (by have := depth_w a; omega)
theorem dEq_w (a b : List Str) : dEq (wD a) (wD b) = .ok (.bool (decide (a = b))) := by
  show guardR _ _ = _
  rw [eqOk_w, eqv_w]; rfl
theorem dNe_w (a : List Str) : dNe (wD a) (wD a) = .ok (.bool false) := dNe_self (plain_w a) (by have := depth_w a; omega)
theorem dNotIn_w (x : List Str) (xss : List (List Str)) : dNotIn (wD x) (.list (xss.map wD)) = .ok (.bool (!decide (x ∈ xss))) := by
  have h1 : inOk (xss.map wD) (wD x) = true := by
    unfold inOk
    rw [plainAll_w, plain_w, decide_eq_true (by have := depth_w x; omega)]; rfl
  have h2 : (xss.map wD).any (fun y => PyData.eqv y (wD x)) = decide (x ∈ xss) := by
    rw [Bool.eq_iff_iff, List.any_eq_true, decide_eq_true_iff]
    constructor
    · rintro ⟨d, hd, e⟩
      obtain ⟨y, hy, rfl⟩ := List.mem_map.mp hd
      rw [eqv_w, decide_eq_true_iff] at e
      rw [← e]; exact hy
    · intro h
      exact ⟨wD x, List.mem_map_of_mem h, by rw [eqv_w]; simp⟩
  have h3 : dIn (wD x) (.list (xss.map wD)) = guardR (inOk (xss.map wD) (wD x)) (.bool ((xss.map wD).any fun y => PyData.eqv y (wD x))) := rfl
  unfold dNotIn
  rw [h3, h1, h2]; rfl
/-! ### rows that come again -/
abbrev wN (m : Nat) (f : Nat → Str) : List Str := (List.range m).map f
theorem nmN_w (m : Nat) (f : Nat → Str) : PyData.tuple (nmN m f) = wD (wN m f) := by
  unfold nmN wD wN
  rw [List.map_map]; rfl
theorem wN_eq {m : Nat} {f g : Nat → Str} : wN m f = wN m g ↔ ∀ i, i < m → f i = g i := by
  unfold wN
  rw [List.map_inj_left]
  exact ⟨fun h i hi => h i (List.mem_range.mpr hi), fun h i hi => h i (List.mem_range.mp hi)⟩
theorem nmN_ext {m : Nat} {f g : Nat → Str} (h : ∀ i, i < m → f i = g i) : nmN m f = nmN m g := by
  unfold nmN
  rw [List.map_inj_left]
  intro i hi
  rw [h i (List.mem_range.mp hi)]
theorem cut_nm {m q : Nat} (f : Nat → Str) (h : q ≤ m) : cutL (nmN m f) none (some (q : Int)) = nmN q f := by
  rw [cut_take]
  unfold nmN
  rw [← List.map_take, List.take_range, Nat.min_eq_left h]
theorem rep_nm {m : Nat} {f : Nat → Str} (h : Per f m) : ∀ k : Nat, (List.replicate k (nmN m f)).flatten = nmN (k * m) f
  | 0 => by rw [Nat.zero_mul]; rfl
  | k + 1 => by
    rw [List.replicate_succ, List.flatten_cons, rep_nm h k, show (k + 1) * m = m + k * m by rw [Nat.add_mul]; omega]
    unfold nmN
    rw [List.range_add, List.map_append, List.map_map]
    congr 1
    rw [List.map_inj_left]
    intro i _
    show PyData.str (f i) = PyData.str (f (m + i))
    rw [Nat.add_comm, h i]
theorem per_mod (f : Nat → Str) (q : Nat) : Per (fun i => f (i % q)) q := fun i => by
  show f ((i + q) % q) = f (i % q)
  rw [Nat.add_mod_right]
theorem rep_mod {q : Nat} (hq : 1 ≤ q) (f : Nat → Str) (k : Nat) : (List.replicate k (nmN q f)).flatten = nmN (k * q) (fun i => f (i % q)) := by
  rw [← rep_nm (per_mod f q) k, nmN_ext (f := f) (g := fun i => f (i % q)) fun i hi => by rw [Nat.mod_eq_of_lt hi]]
theorem dMul_nm {q k : Nat} (hq : 1 ≤ q) (h2 : 2 ≤ k) (hk : k ≤ 64) (hq2 : q ≤ 64) (f : Nat → Str) : dMul (.tuple (nmN q f)) (.int k) = .ok (.tuple (nmN (k * q) (fun i => f (i % q)))) := by
  show guardR _ _ = _
  rw [Int.toNat_natCast, rep_mod hq]
  refine guardR_of ?_ _
  have e0 : (nmN q f).isEmpty = false := by
    cases h : nmN q f with
    | nil => have := nmN_len q f; rw [h] at this; simp at this; omega
    | cons a l => rfl
  rw [e0, nmN_len, decide_eq_true (show (2 : Int) ≤ k by omega), decide_eq_true (show (k : Int) ≤ 1000 by omega), decide_eq_true (show q ≤ 1000 by omega)]
  rfl
theorem dMulT_nm {q k : Nat} (hq : 1 ≤ q) (h1 : 1 ≤ k) (hk : k ≤ 64) (hq2 : q ≤ 64) (f : Nat → Str) : dMulT (.tuple (nmN q f)) (.int k) = .ok (.tuple (nmN (k * q) (fun i => f (i % q)))) := by
  rcases Nat.lt_or_ge 1 k with l | l
  · rw [x_dMulT _ _ (by omega), dMul_nm hq l hk hq2]
  · have : k = 1 := by omega
    subst this
    rw [Nat.one_mul]
    show R.ok (PyData.tuple (nmN q f)) = _
    rw [nmN_ext (f := f) (g := fun i => f (i % q)) fun i hi => by rw [Nat.mod_eq_of_lt hi]]
theorem rg1_nat (m : Nat) : rgD 1 ((m : Int) + 1) = (List.range m).map fun k => PyData.int ((k + 1 : Nat) : Int) := by
  unfold rgD
  rw [show (((m : Int) + 1) - 1).toNat = m by omega, List.map_inj_left]
  intro k _
  congr 1
  omega
theorem f_short {m p : Nat} {f : Nat → Str} (hm : 1 ≤ m) (h64 : m ≤ 64) (hP : Per f m) (s : IsSh m f p) : F__shortest [.tuple (nmN m f)] = .ok (.tuple (nmN p f)) := by
  have hl := nmN_len m f
  have hf : fits m = true := fits_ok (by omega)
  have hb1 : big62 1 = true := by rfl
  have hb2 : big62 ((m : Int) + 1) = true := by
    have := big62_ok (i := ((m + 1 : Nat) : Int)) (by omega) (by omega)
    rwa [show ((m + 1 : Nat) : Int) = (m : Int) + 1 by omega] at this
  have c1 : ∀ a : Sl, compR (cStep (aName 4) (tV (e2 dEq (e2 dMod (eVar 1) (eVar 4)) (eInt 0))) (eVar 4) [.f (.tuple (nmN m f)), .f (.int m), .u, a, .u]) (rgD 1 ((m : Int) + 1)) = .ok (((List.range m).filter fun k => decide (m % (k + 1) = 0)).map fun k => PyData.int ((k + 1 : Nat) : Int)) := by
    intro a
    rw [rg1_nat]
    refine compR_map _ _ _ _ fun k hk => ?_
    have hk := List.mem_range.mp hk
    have hd : divOk ((k : Int) + 1) = true := by
      unfold divOk
      rw [decide_eq_true (by omega), decide_eq_true (by omega)]; rfl
    have e : ((m : Int) % ((k : Int) + 1) = 0) = (m % (k + 1) = 0) := by
      apply propext
      have : ((m % (k + 1) : Nat) : Int) = (m : Int) % ((k : Int) + 1) := by simp
      rw [← this]
      omega
    by_cases q : m % (k + 1) = 0
    · simp [cStep, hd, e, q]
    · simp [cStep, hd, e, q]
  have c2 : compR (cStep (aName 4) (tV (e2 dEq (eVar 0) (e2 dMulT (eCut (eVar 0) (pNone) (pSome (eVar 4))) (e2 dFdiv (eVar 1) (eVar 4))))) (eVar 4) [.f (.tuple (nmN m f)), .f (.int m), .f (.list (((List.range m).filter fun k => decide (m % (k + 1) = 0)).map fun k => PyData.int ((k + 1 : Nat) : Int))), .u, .u]) (((List.range m).filter fun k => decide (m % (k + 1) = 0)).map fun k => PyData.int ((k + 1 : Nat) : Int)) = .ok ((((List.range m).filter fun k => decide (m % (k + 1) = 0)).filter fun k => perB m f (k + 1)).map fun k => PyData.int ((k + 1 : Nat) : Int)) := by
    generalize hSZ : (PyData.list (((List.range m).filter fun k => decide (m % (k + 1) = 0)).map fun k => PyData.int ((k + 1 : Nat) : Int))) = SZ
    refine compR_map _ _ _ _ fun k hk => ?_
    obtain ⟨hk1, hk2⟩ := List.mem_filter.mp hk
    have hk1 := List.mem_range.mp hk1
    have hk2 : m % (k + 1) = 0 := by simpa using hk2
    obtain ⟨j, hj⟩ := Nat.dvd_of_mod_eq_zero hk2
    have hj1 : 1 ≤ j := by
      rcases Nat.eq_zero_or_pos j with rfl | h
      · rw [Nat.mul_zero] at hj; omega
      · exact h
    have hj2 : j ≤ 64 := Nat.le_trans (Nat.le_mul_of_pos_left j (by omega : 0 < k + 1)) (by omega)
    have hd : divOk ((k : Int) + 1) = true := by
      unfold divOk
      rw [decide_eq_true (by omega), decide_eq_true (by omega)]; rfl
    have e : (m : Int) / ((k : Int) + 1) = (j : Nat) := by
      have : ((m / (k + 1) : Nat) : Int) = (m : Int) / ((k : Int) + 1) := by simp
      rw [← this, hj, Nat.mul_div_cancel_left _ (by omega)]
    have h1 := cut_nm f (q := k + 1) (m := m) (by omega)
    have h2 := dMulT_nm (q := k + 1) (k := j) (by omega) hj1 hj2 (by omega) f
    have h3 : dEq (.tuple (nmN m f)) (.tuple (nmN (j * (k + 1)) fun i => f (i % (k + 1)))) = .ok (.bool (perB m f (k + 1))) := by
      rw [Nat.mul_comm, ← hj, nmN_w, nmN_w, dEq_w]
      congr 2
      rw [Bool.eq_iff_iff, decide_eq_true_iff, wN_eq]
      unfold perB
      rw [List.all_eq_true]
      constructor
      · intro h i hi
        rw [h i (List.mem_range.mp hi)]; exact beq_self_eq_true _
      · intro h i hi
        exact eq_of_beq (h i (List.mem_range.mpr hi))
    simp at h1
    cases q : perB m f (k + 1) with
    | true => rw [q] at h3; simp [cStep, hd, e, h1, h2, h3]
    | false => rw [q] at h3; simp [cStep, hd, e, h1, h2, h3]
  have hh : atI ((((List.range m).filter fun k => decide (m % (k + 1) = 0)).filter fun k => perB m f (k + 1)).map fun k => PyData.int ((k + 1 : Nat) : Int)) 0 = some (.int p) := by
    have e := s.head hm (fun k => (decide (m % (k + 1) = 0)) && perB m f (k + 1)) fun k hk => by
      rw [Bool.and_eq_true, decide_eq_true_iff]
      constructor
      · rintro ⟨a, b⟩
        have a := Nat.dvd_of_mod_eq_zero a
        exact ⟨a, (Tr.perB_iff a hm hP).mp b⟩
      · rintro ⟨a, b⟩
        exact ⟨Nat.mod_eq_zero_of_dvd a, (Tr.perB_iff a hm hP).mpr b⟩
    have e2 : (((List.range m).filter fun k => decide (m % (k + 1) = 0)).filter fun k => perB m f (k + 1)).head? = some (p - 1) := by
      rw [List.filter_filter, ← e]
      congr 2
      funext k
      exact Bool.and_comm _ _
    refine atI_nat (j := 0) ?_
    rw [List.getElem?_map, ← List.head?_eq_getElem?, e2]
    show some (PyData.int ((p - 1 + 1 : Nat) : Int)) = _
    rw [show p - 1 + 1 = p by have := s.pos; omega]
  have hc := cut_nm f (s.le hm)
  have hl2 : ((((List.range m).filter fun k => decide (m % (k + 1) = 0)).map fun k => PyData.int ((k + 1 : Nat) : Int))).length ≤ m := by
    rw [List.length_map]
    exact Nat.le_trans (List.length_filter_le _ _) (by rw [List.length_range]; exact Nat.le_refl _)
  have hf2 : fits ((((List.range m).filter fun k => decide (m % (k + 1) = 0)).map fun k => PyData.int ((k + 1 : Nat) : Int))).length = true := fits_ok (by omega)
  have hrg : (rgD 1 ((m : Int) + 1)).length = m := by rw [rgD_len]; omega
  generalize ((((List.range m).filter fun k => decide (m % (k + 1) = 0)).filter fun k => perB m f (k + 1)).map fun k => PyData.int ((k + 1 : Nat) : Int)) = GD at *
  generalize ((((List.range m).filter fun k => decide (m % (k + 1) = 0)).map fun k => PyData.int ((k + 1 : Nat) : Int))) = SZ at *
  generalize nmN m f = NM at *
  show runD 5 S__shortest _ = _
  simp [runD, S__shortest, hl, hf, hb1, hb2, hrg, c1, c2, hf2, hh, hc]
end PQ

namespace PQ
open PySem PySem.Spec PyProof.Rows L2
open Tr (Per IsSh perB)
theorem seqS {S S' : ES} {ρ ρ1 : Rho} {o : Out} (h : S ρ = .nx ρ1) (h2 : S' ρ1 = o) : sCons S S' ρ = o := by rw [x_sCons, h, thn_nx, h2]
/-! ### trees for ever -/
def evD (p : Nat) (f : Nat → Str) : D := if p = 1 then (Tr.bt 0 f).d else if p = 2 then (Tr.bt 1 f).d else if p = 4 then (Tr.bt 2 f).d else if p = 8 then (Tr.bt 3 f).d else .none
theorem w_odd {R : D} {p : Int} (h : p % 2 = 1) : whN T_tree_for_ever_1 B_tree_for_ever_1 [0] 1 [.u, .f R, .f (.int p)] = .nx [.u, .f R, .f (.int p)] := by
  have hd : divOk 2 = true := by rfl
  refine whN_0 ?_
  simp [T_tree_for_ever_1, hd, h]
theorem w_even {R : D} {p q : Int} {n : Nat} {o : Out} (h : p % 2 = 0) (h2 : p / 2 = q) (ih : whN T_tree_for_ever_1 B_tree_for_ever_1 [0] n [.u, .f R, .f (.int q)] = o) : whN T_tree_for_ever_1 B_tree_for_ever_1 [0] (n + 1) [.u, .f R, .f (.int p)] = o := by
  have hd : divOk 2 = true := by rfl
  refine whN_1 (ρ2 := [.u, .f R, .f (.int q)]) ?_ ?_ (by rfl) ih
  · simp [T_tree_for_ever_1, hd, h]
  · simp [B_tree_for_ever_1, hd, h2]
theorem f_ever {m p : Nat} {f : Nat → Str} (hm : 1 ≤ m) (h64 : m ≤ 64) (hP : Per f m) (s : IsSh m f p) (hn : ∀ i, okName (f i)) (hp : p ≤ 9) : F_tree_for_ever [.tuple (nmN m f)] = .ok (evD p f) := by
  have h1 := f_cnames hm h64 hn
  have h2 := f_short hm h64 hP s
  have hl := nmN_len p f
  have hf : fits p = true := fits_ok (by omega)
  have fin : ∀ (o : Nat) (w : D), (∃ n, n ≤ 100 ∧ whN T_tree_for_ever_1 B_tree_for_ever_1 [0] n [.u, .f (.tuple (nmN p f)), .f (.int p)] = .nx [.u, .f (.tuple (nmN p f)), .f (.int o)]) → (o = 1 → F__built 16 [.tuple (nmN p f)] = .ok w) → (o ≠ 1 → w = .none) → F_tree_for_ever [.tuple (nmN m f)] = .ok w := by
    rintro o w ⟨n, hn1, hw⟩ hb hb2
    have := sWhile_of (T := T_tree_for_ever_1) (B := B_tree_for_ever_1) (ks := [0]) (n := n) (ρ := [.f (.tuple (nmN m f)), .f (.tuple (nmN p f)), .f (.int p)]) hw (by intro e; cases e) (by omega)
    show runD 3 S_tree_for_ever _ = _
    generalize nmN m f = NM at *
    generalize nmN p f = NP at *
    by_cases q : o = 1
    · subst q
      have hb := hb rfl
      simp [runD, S_tree_for_ever, h1, h2, hl, hf, this, hb]
    · have q2 : ¬ (o : Int) = 1 := by omega
      rw [hb2 q]
      simp [runD, S_tree_for_ever, h1, h2, hl, hf, this, q2]
  have bu : ∀ k, k ≤ 3 → p = 2 ^ k → F__built 16 [.tuple (nmN p f)] = .ok (Tr.bt k f).d := by
    rintro k hk rfl
    have := f_built 16 k (2 ^ k) f (by omega) Nat.one_le_two_pow (Nat.le_refl _) (by omega)
    rw [this, Tr.bm_pow]
  have hp1 := s.pos
  rcases (by omega : p = 1 ∨ p = 2 ∨ p = 3 ∨ p = 4 ∨ p = 5 ∨ p = 6 ∨ p = 7 ∨ p = 8 ∨ p = 9) with rfl | rfl | rfl | rfl | rfl | rfl | rfl | rfl | rfl
  · exact fin 1 _ ⟨_, by omega, w_odd (by omega)⟩ (fun _ => bu 0 (by omega) rfl) (fun h => absurd rfl h)
  · exact fin 1 _ ⟨_, by omega, w_even (by omega) (by omega) (w_odd (p := 1) (by omega))⟩ (fun _ => bu 1 (by omega) rfl) (fun h => absurd rfl h)
  · exact fin 3 _ ⟨_, by omega, w_odd (by omega)⟩ (fun h => by omega) (fun _ => rfl)
  · exact fin 1 _ ⟨_, by omega, w_even (q := 2) (by omega) (by omega) (w_even (by omega) (by omega) (w_odd (p := 1) (by omega)))⟩ (fun _ => bu 2 (by omega) rfl) (fun h => absurd rfl h)
  · exact fin 5 _ ⟨_, by omega, w_odd (by omega)⟩ (fun h => by omega) (fun _ => rfl)
  · exact fin 3 _ ⟨_, by omega, w_even (by omega) (by omega) (w_odd (p := 3) (by omega))⟩ (fun h => by omega) (fun _ => rfl)
  · exact fin 7 _ ⟨_, by omega, w_odd (by omega)⟩ (fun h => by omega) (fun _ => rfl)
  · exact fin 1 _ ⟨_, by omega, w_even (q := 4) (by omega) (by omega) (w_even (q := 2) (by omega) (by omega) (w_even (by omega) (by omega) (w_odd (p := 1) (by omega))))⟩ (fun _ => bu 3 (by omega) rfl) (fun h => absurd rfl h)
  · exact fin 9 _ ⟨_, by omega, w_odd (by omega)⟩ (fun h => by omega) (fun _ => rfl)
def bl1 : ES := sSet 4 (mF (eCut (eLst (eCons (eStr "a") (eCons (eStr "b") (eCons (eStr "cc") (eNil))))) (pNone) (pSome (e2 dIx (eLst (eCons (eInt 2) (eCons (eInt 2) (eCons (eInt 3) (eCons (eInt 2) (eCons (eInt 3) (eCons (eInt 1) (eNil)))))))) (eVar 2)))))
def bl2 : ES := sSet 5 (mF (eA dTuple (eCons (eComp (iRg1 (e2 dAdd (eInt 1) (e2 dMod (eA dInt (eCons (e2 dIx (eVar 1) (e2 dAdd (eInt 50) (eVar 2))) (eNil))) (e2 dIx (eLst (eCons (eInt 6) (eCons (eInt 5) (eCons (eInt 4) (eCons (eInt 9) (eCons (eInt 8) (eCons (eInt 7) (eNil)))))))) (eVar 2))))) (aName 10) (tTrue) (e2 dIx (eVar 4) (e2 dMod (eA dInt (eCons (e2 dIx (eVar 1) (e2 dAdd (e2 dMul (eInt 9) (eVar 2)) (eVar 10))) (eNil))) (eA dLen (eCons (eVar 4) (eNil))))) [10]) (eNil))))
def bl3 : ES := sSet 3 (mF (eCall F_tree_for (eCons (eVar 5) (eNil))))
def bl4 : ES := sIf (tOrB (tV (e2 dNe (eCall F__law_names (eCons (eVar 3) (eCons (eA dLen (eCons (eVar 5) (eNil))) (eNil)))) (eVar 5))) (tOrB (tV (e2 dNe (eCall F_tree_ends (eCons (eVar 3) (eCons (eA dLen (eCons (eVar 5) (eNil))) (eNil)))) (eVar 5))) (tV (e2 dNe (eCall F_tree_size (eCons (eVar 3) (eNil))) (eCall F_switches_for (eCons (eVar 5) (eNil))))))) (sRet (eBool false)) (sNil)
def bl5 : ES := sIf (tV (e2 dLt (eA dLen (eCons (eVar 5) (eNil))) (eInt 7))) (sCons (sSet 9 (mF (eInt 0))) (sCons (sWhile (T_law_1) (B_law_1) [0, 2, 6, 7, 8, 10]) (sIf (tV (e2 dNe (eCall F_switches_for (eCons (eVar 5) (eNil))) (eVar 9))) (sRet (eBool false)) (sNil)))) (sNil)
def bl6 : ES := sSet 6 (mF (e2 dIx (eComp (iRg2 (eInt 1) (e2 dAdd (eA dLen (eCons (eVar 5) (eNil))) (eInt 1))) (aName 9) (tAndB (tV (eA dAll (eCons (eComp (iRg2 (eVar 9) (eA dLen (eCons (eVar 5) (eNil)))) (aName 10) (tTrue) (e2 dEq (e2 dIx (eVar 5) (eVar 10)) (e2 dIx (eVar 5) (e2 dSub (eVar 10) (eVar 9)))) [10]) (eNil)))) (tV (e2 dEq (e2 dMod (eA dInt (eCons (eA dLen (eCons (eVar 5) (eNil))) (eNil))) (eVar 9)) (eInt 0)))) (eVar 9) [9]) (eInt 0)))
def bl7 : ES := sSet 7 (mF (eCall F_tree_for_ever (eCons (eVar 5) (eNil))))
def bl8 : ES := sIf (tV (e2 dNe (e1 dNotN (eVar 7)) (e2 dIn (eVar 6) (eTup (eCons (eInt 1) (eCons (eInt 2) (eCons (eInt 4) (eCons (eInt 8) (eNil))))))))) (sRet (eBool false)) (sNil)
def bl9 : ES := sIf (tAndB (tV (e1 dNotN (eVar 7))) (tOrB (tV (e2 dNe (eCall F__law_names (eCons (eVar 7) (eCons (eInt 40) (eNil)))) (eCut (e2 dMul (eVar 5) (eInt 40)) (pNone) (pSome (eInt 40))))) (tOrB (tV (e2 dNe (eCall F_tree_size (eCons (eVar 7) (eNil))) (eCall F_switches_for (eCons (eCut (eVar 5) (pNone) (pSome (eVar 6))) (eNil))))) (tV (e2 dNe (eCall F_tree_again (eCons (eVar 7) (eNil))) (eVar 6)))))) (sRet (eBool false)) (sNil)
def bl10 : ES := sSet 8 (mF (eCall F_tree_for_ever (eCons (e2 dMul (eVar 5) (eInt 2)) (eNil))))
def bl11 : ES := sIf (tOrB (tV (e2 dNe (eVar 8) (eVar 7))) (tV (e2 dNe (eCall F_tree_for (eCons (e2 dAdd (eVar 5) (eCut (eVar 5) (pNone) (pSome (eInt 0)))) (eNil))) (eVar 3)))) (sRet (eBool false)) (sNil)
theorem bl_eq : B_law_2 = sCons bl1 (sCons bl2 (sCons bl3 (sCons bl4 (sCons bl5 (sCons bl6 (sCons bl7 (sCons bl8 (sCons bl9 (sCons bl10 bl11))))))))) := rfl
/-- what a turn rests on -/
structure Tn (kinds : List Str) (m p : Nat) (f : Nat → Str) : Prop where
  m1 : 1 ≤ m
  m9 : m ≤ 9
  per : Per f m
  sh : IsSh m f p
  kn : ∀ i, f i ∈ kinds
  ok : ∀ a ∈ kinds, okName a
  k3 : kinds.length ≤ 3
section
variable {kinds : List Str} {m p : Nat} {f : Nat → Str} {ds : List D} {a2 a9 : Sl}
theorem Tn.okn (t : Tn kinds m p f) (i : Nat) : okName (f i) := t.ok _ (t.kn i)
def tre (m : Nat) (f : Nat → Str) : D := (Tr.bm 6 m f).d
theorem b3 (t : Tn kinds m p f) : bl3 [.u, .f (.list ds), a2, .u, .f (.list (kinds.map .str)), .f (.tuple (nmN m f)), .u, .u, .u, .u, .u] = .nx [.u, .f (.list ds), a2, .f (tre m f), .f (.list (kinds.map .str)), .f (.tuple (nmN m f)), .u, .u, .u, .u, .u] := by
  have h := f_treefor t.m1 (by have := t.m9; omega) t.okn
  simp [bl3, h, tre]
theorem nm_self {m n : Nat} {f : Nat → Str} {t : Tr} (h : ∀ i, i < n → t.at' i = f i) : ((List.range n).map fun k => PyData.str (t.at' k)) = nmN n f := nmN_ext (f := t.at') h
theorem dNe_nm (m : Nat) (f : Nat → Str) : dNe (.tuple (nmN m f)) (.tuple (nmN m f)) = .ok (.bool false) := by
  rw [nmN_w]; exact dNe_w _
theorem b4 (t : Tn kinds m p f) : bl4 [.u, .f (.list ds), a2, .f (tre m f), .f (.list (kinds.map .str)), .f (.tuple (nmN m f)), .u, .u, .u, .u, .u] = .nx [.u, .f (.list ds), a2, .f (tre m f), .f (.list (kinds.map .str)), .f (.tuple (nmN m f)), .u, .u, .u, .u, .u] := by
  have m9 := t.m9
  have hO : (Tr.bm 6 m f).Ok := bm_Ok (by omega) t.m1 (by omega) (by omega) t.okn
  have h1 := f_names hO m (by omega)
  have h2 := f_ends hO m (by omega)
  have e : ((List.range m).map fun k => PyData.str ((Tr.bm 6 m f).at' k)) = nmN m f := nm_self (m := m) fun i hi => Tr.bm_at 6 m f i (by omega) hi
  rw [e] at h1 h2
  have h3 := f_tsize hO
  have h4 := f_switches t.m1 (by omega) t.okn
  rw [Tr.nd_eq f (by omega)] at h3
  have h5 := dNe_nm m f
  have hl := nmN_len m f
  have hf : fits m = true := fits_ok (by omega)
  unfold tre
  generalize nmN m f = NM at *
  generalize (Tr.bm 6 m f).d = TD at *
  simp [bl4, h1, h2, h3, h4, h5, hl, hf]
theorem wh_loop (t : Tn kinds m p f) (h7 : m < 7) : ∀ (j s : Nat), s + j = Tr.nd m f → whN T_law_1 B_law_1 [0, 2, 6, 7, 8, 10] (j + 1) [.u, .f (.list ds), .u, .f (tre m f), .f (.list (kinds.map .str)), .f (.tuple (nmN m f)), .u, .u, .u, .f (.int s), .u] = .nx [.u, .f (.list ds), .u, .f (tre m f), .f (.list (kinds.map .str)), .f (.tuple (nmN m f)), .u, .u, .u, .f (.int (Tr.nd m f)), .u]
  | j, s, h => by
    have m1 := t.m1
    have hz := Tr.nd_le (f := f) t.m1
    obtain ⟨xss, r1, R⟩ := f_rows t.k3 16 s m (by omega) (by omega) (by omega)
    have hx : Tr.nd m (fn (wN m f)) = Tr.nd m f := Tr.nd_ext m1 fun i hi => fn_range f hi
    have hq : decide (wN m f ∈ xss) = decide (j = 0) := by
      congr 1
      apply propext
      constructor
      · intro q
        have := (R.sub _ q).2.2 m1
        omega
      · intro q
        refine R.all _ (by simp) (fun a ha => ?_) (by omega)
        obtain ⟨i, _, rfl⟩ := List.mem_map.mp ha
        exact t.kn i
    have h1 := dNotIn_w (wN m f) xss
    rw [hq, ← nmN_w] at h1
    have hl := nmN_len m f
    have hf : fits m = true := fits_ok (by omega)
    generalize xss.map wD = XX at *
    cases j with
    | zero =>
      refine whN_0 ?_ |>.trans ?_
      · generalize nmN m f = NM at *
        simp [T_law_1, hl, hf, r1, h1]
      · rw [show s = Tr.nd m f by omega]
    | succ j =>
      have ih := wh_loop t h7 j (s + 1) (by omega)
      refine whN_1 (ρ2 := [.u, .f (.list ds), .u, .f (tre m f), .f (.list (kinds.map .str)), .f (.tuple (nmN m f)), .u, .u, .u, .f (.int ((s + 1 : Nat) : Int)), .u]) ?_ ?_ (by rfl) ih
      · generalize nmN m f = NM at *
        simp [T_law_1, hl, hf, r1, h1]
      · simp [B_law_1]
theorem b5 (t : Tn kinds m p f) : ∃ a2' a9, bl5 [.u, .f (.list ds), a2, .f (tre m f), .f (.list (kinds.map .str)), .f (.tuple (nmN m f)), .u, .u, .u, .u, .u] = .nx [.u, .f (.list ds), a2', .f (tre m f), .f (.list (kinds.map .str)), .f (.tuple (nmN m f)), .u, .u, .u, a9, .u] := by
  have m9 := t.m9
  have hl := nmN_len m f
  have hf : fits m = true := fits_ok (by omega)
  by_cases q : m < 7
  · have q' : (m : Int) < 7 := by omega
    have w := wh_loop (ds := ds) t q (Tr.nd m f) 0 (by omega)
    have hz := Tr.nd_le (f := f) t.m1
    have ws := sWhile_of (T := T_law_1) (B := B_law_1) (ks := [0, 2, 6, 7, 8, 10]) (ρ := [.u, .f (.list ds), a2, .f (tre m f), .f (.list (kinds.map .str)), .f (.tuple (nmN m f)), .u, .u, .u, .f (.int 0), .u]) w (by intro e; cases e) (by omega)
    have h4 := f_switches t.m1 (by omega) t.okn
    refine ⟨.u, .f (.int (Tr.nd m f)), ?_⟩
    generalize nmN m f = NM at *
    simp [bl5, hl, hf, q', ws, h4]
  · have q' : ¬ (m : Int) < 7 := by omega
    refine ⟨a2, .u, ?_⟩
    generalize nmN m f = NM at *
    simp [bl5, hl, hf, q']
end
end PQ

namespace PQ
open PySem PySem.Spec PyProof.Rows L2
open Tr (Per IsSh perB)
section
variable {kinds : List Str} {m p : Nat} {f : Nat → Str} {ds : List D} {a2 a9 : Sl}
theorem rg_from (q n : Nat) : rgD (q : Int) ((q + n : Nat) : Int) = (List.range n).map fun j => PyData.int ((q + j : Nat) : Int) := by
  unfold rgD
  rw [show (((q + n : Nat) : Int) - (q : Int)).toNat = n by omega, List.map_inj_left]
  intro j _
  congr 1
/-- no name is other than the one q ahead of it -/
def backB (m : Nat) (f : Nat → Str) (q : Nat) : Bool := (List.range (m - q)).all fun j => f (q + j) == f j
theorem backB_iff {q : Nat} (hd : q ∣ m) (hm : 1 ≤ m) (hP : Per f m) : backB m f q = true ↔ Per f q := by
  rw [← Tr.perB_iff hd hm hP]
  unfold backB perB
  rw [List.all_eq_true, List.all_eq_true]
  have hq : 1 ≤ q := Nat.pos_of_dvd_of_pos hd hm
  constructor
  · intro h
    have key : ∀ n i, i ≤ n → i < m → f i = f (i % q) := by
      intro n
      induction n with
      | zero =>
        intro i h1 h2
        rw [show i = 0 by omega, Nat.zero_mod]
      | succ n ih =>
        intro i h1 h2
        rcases Nat.lt_or_ge i q with l | l
        · rw [Nat.mod_eq_of_lt l]
        · have a := eq_of_beq (h (i - q) (List.mem_range.mpr (by omega)))
          rw [show q + (i - q) = i by omega] at a
          rw [a, ih (i - q) (by omega) (by omega), Nat.mod_eq_sub_mod l]
    intro i hi
    rw [← key i i (Nat.le_refl _) (List.mem_range.mp hi)]
    exact beq_self_eq_true _
  · intro h j hj
    have hj := List.mem_range.mp hj
    have a := eq_of_beq (h (q + j) (List.mem_range.mpr (by omega)))
    have b := eq_of_beq (h j (List.mem_range.mpr (by omega)))
    rw [a, b, Nat.add_mod_left]
    exact beq_self_eq_true _
theorem b6 (t : Tn kinds m p f) : bl6 [.u, .f (.list ds), a2, .f (tre m f), .f (.list (kinds.map .str)), .f (.tuple (nmN m f)), .u, .u, .u, a9, .u] = .nx [.u, .f (.list ds), a2, .f (tre m f), .f (.list (kinds.map .str)), .f (.tuple (nmN m f)), .f (.int p), .u, .u, a9, .u] := by
  have m1 := t.m1
  have m9 := t.m9
  have hl := nmN_len m f
  have hf : fits m = true := fits_ok (by omega)
  have hb1 : big62 1 = true := by rfl
  have hb2 : big62 ((m : Int) + 1) = true := by
    have := big62_ok (i := ((m + 1 : Nat) : Int)) (by omega) (by omega)
    rwa [show ((m + 1 : Nat) : Int) = (m : Int) + 1 by omega] at this
  have hb3 : big62 (m : Int) = true := big62_ok (by omega) (by omega)
  generalize hK : PyData.list (kinds.map .str) = KD
  generalize hT : tre m f = TD
  have c1 : ∀ (k : Nat), k < m → compR (cStep (aName 10) tTrue (e2 dEq (e2 dIx (eVar 5) (eVar 10)) (e2 dIx (eVar 5) (e2 dSub (eVar 10) (eVar 9)))) [.u, .f (.list ds), a2, .f TD, .f KD, .f (.tuple (nmN m f)), .u, .u, .u, .f (.int ((k : Int) + 1)), .u]) (rgD ((k : Int) + 1) m) = .ok ((List.range (m - (k + 1))).map fun j => PyData.bool (f (k + 1 + j) == f j)) := by
    intro k hk
    rw [show rgD ((k : Int) + 1) (m : Int) = rgD ((k + 1 : Nat) : Int) ((k + 1 + (m - (k + 1)) : Nat) : Int) by congr 1 <;> omega, rg_from]
    refine compR_all _ _ _ fun j hj => ?_
    have hj := List.mem_range.mp hj
    have g1 := nmN_at (m := m) (f := f) (i := k + 1 + j) (by omega)
    have g2 := nmN_at (m := m) (f := f) (i := j) (by omega)
    have e : ((k + 1 + j : Nat) : Int) = (k : Int) + 1 + (j : Int) := by omega
    have e2 : (k : Int) + 1 + (j : Int) - ((k : Int) + 1) = (j : Int) := by omega
    rw [e] at g1
    generalize nmN m f = NM at *
    simp [cStep, g1, g2, e2]
  have c2 : compR (cStep (aName 9) (tAndB (tV (eA dAll (eCons (eComp (iRg2 (eVar 9) (eA dLen (eCons (eVar 5) (eNil)))) (aName 10) (tTrue) (e2 dEq (e2 dIx (eVar 5) (eVar 10)) (e2 dIx (eVar 5) (e2 dSub (eVar 10) (eVar 9)))) [10]) (eNil)))) (tV (e2 dEq (e2 dMod (eA dInt (eCons (eA dLen (eCons (eVar 5) (eNil))) (eNil))) (eVar 9)) (eInt 0)))) (eVar 9) [.u, .f (.list ds), a2, .f TD, .f KD, .f (.tuple (nmN m f)), .u, .u, .u, .u, .u]) (rgD 1 ((m : Int) + 1)) = .ok (((List.range m).filter fun k => backB m f (k + 1) && decide (m % (k + 1) = 0)).map fun k => PyData.int ((k + 1 : Nat) : Int)) := by
    rw [rg1_nat]
    refine compR_map _ _ _ _ fun k hk => ?_
    have hk := List.mem_range.mp hk
    have h1 := c1 k hk
    have hd : divOk ((k : Int) + 1) = true := by
      unfold divOk
      rw [decide_eq_true (by omega), decide_eq_true (by omega)]; rfl
    have hb4 : big62 ((k : Int) + 1) = true := by
      have := big62_ok (i := ((k + 1 : Nat) : Int)) (by omega) (by omega)
      rwa [show ((k + 1 : Nat) : Int) = (k : Int) + 1 by omega] at this
    have e : ((m : Int) % ((k : Int) + 1) = 0) = (m % (k + 1) = 0) := by
      apply propext
      have : ((m % (k + 1) : Nat) : Int) = (m : Int) % ((k : Int) + 1) := by simp
      rw [← this]
      omega
    have hbs : bools ((List.range (m - (k + 1))).map fun j => PyData.bool (f (k + 1 + j) == f j)) = .ok ((List.range (m - (k + 1))).map fun j => (f (k + 1 + j) == f j)) := by
      have := bools_map (bs := (List.range (m - (k + 1))).map fun j => (f (k + 1 + j) == f j))
      rw [List.map_map] at this
      exact this
    have hal : ((List.range (m - (k + 1))).map fun j => (f (k + 1 + j) == f j)).all id = backB m f (k + 1) := by
      unfold backB
      rw [List.all_map]; rfl
    have hrl : fits (rgD ((k : Int) + 1) m).length = true := fits_ok (by rw [rgD_len]; omega)
    generalize hBB : ((List.range (m - (k + 1))).map fun j => PyData.bool (f (k + 1 + j) == f j)) = BB at *
    have hll : fits BB.length = true := fits_ok (by rw [← hBB, List.length_map, List.length_range]; omega)
    generalize ((List.range (m - (k + 1))).map fun j => (f (k + 1 + j) == f j)) = bb at *
    generalize nmN m f = NM at *
    by_cases q : m % (k + 1) = 0
    · by_cases q2 : backB m f (k + 1) = true
      · simp [cStep, hd, e, q, hl, hf, hb3, hb4, hrl, hll, h1, dAll, hbs, hal, q2]
      · simp [cStep, hd, e, q, hl, hf, hb3, hb4, hrl, hll, h1, dAll, hbs, hal, q2]
    · by_cases q2 : backB m f (k + 1) = true
      · simp [cStep, hd, e, q, hl, hf, hb3, hb4, hrl, hll, h1, dAll, hbs, hal, q2]
      · simp [cStep, hd, e, q, hl, hf, hb3, hb4, hrl, hll, h1, dAll, hbs, hal, q2]
  have hh : atI (((List.range m).filter fun k => backB m f (k + 1) && decide (m % (k + 1) = 0)).map fun k => PyData.int ((k + 1 : Nat) : Int)) 0 = some (.int p) := by
    have e := t.sh.head m1 (fun k => backB m f (k + 1) && decide (m % (k + 1) = 0)) fun k hk => by
      rw [Bool.and_eq_true, decide_eq_true_iff]
      constructor
      · rintro ⟨b, a⟩
        have a := Nat.dvd_of_mod_eq_zero a
        exact ⟨a, (backB_iff a m1 t.per).mp b⟩
      · rintro ⟨a, b⟩
        exact ⟨(backB_iff a m1 t.per).mpr b, Nat.mod_eq_zero_of_dvd a⟩
    refine atI_nat (j := 0) ?_
    rw [List.getElem?_map, ← List.head?_eq_getElem?, e]
    show some (PyData.int ((p - 1 + 1 : Nat) : Int)) = _
    rw [show p - 1 + 1 = p by have := t.sh.pos; omega]
  have hrg : (rgD 1 ((m : Int) + 1)).length = m := by rw [rgD_len]; omega
  generalize (((List.range m).filter fun k => backB m f (k + 1) && decide (m % (k + 1) = 0)).map fun k => PyData.int ((k + 1 : Nat) : Int)) = GD at *
  generalize nmN m f = NM at *
  simp [bl6, hl, hf, hb1, hb2, hrg, c2, hh]
theorem b7 (t : Tn kinds m p f) : bl7 [.u, .f (.list ds), a2, .f (tre m f), .f (.list (kinds.map .str)), .f (.tuple (nmN m f)), .f (.int p), .u, .u, a9, .u] = .nx [.u, .f (.list ds), a2, .f (tre m f), .f (.list (kinds.map .str)), .f (.tuple (nmN m f)), .f (.int p), .f (evD p f), .u, a9, .u] := by
  have m9 := t.m9
  have h := f_ever t.m1 (by omega) t.per t.sh t.okn (by have := t.sh.le t.m1; omega)
  simp [bl7, h]
theorem ev_cases (t : Tn kinds m p f) : (∃ k, k ≤ 3 ∧ p = 2 ^ k ∧ evD p f = (Tr.bt k f).d ∧ dIn (.int p) (.tuple [.int 1, .int 2, .int 4, .int 8]) = .ok (.bool true)) ∨ (evD p f = .none ∧ dIn (.int p) (.tuple [.int 1, .int 2, .int 4, .int 8]) = .ok (.bool false)) := by
  have h1 := t.sh.pos
  have h2 := t.sh.le t.m1
  have h3 := t.m9
  generalize hx : p = x at *
  rcases (by omega : x = 1 ∨ x = 2 ∨ x = 3 ∨ x = 4 ∨ x = 5 ∨ x = 6 ∨ x = 7 ∨ x = 8 ∨ x = 9) with rfl | rfl | rfl | rfl | rfl | rfl | rfl | rfl | rfl
  · exact .inl ⟨0, by omega, rfl, rfl, rfl⟩
  · exact .inl ⟨1, by omega, rfl, rfl, rfl⟩
  · exact .inr ⟨rfl, rfl⟩
  · exact .inl ⟨2, by omega, rfl, rfl, rfl⟩
  · exact .inr ⟨rfl, rfl⟩
  · exact .inr ⟨rfl, rfl⟩
  · exact .inr ⟨rfl, rfl⟩
  · exact .inl ⟨3, by omega, rfl, rfl, rfl⟩
  · exact .inr ⟨rfl, rfl⟩
theorem tr_some (t : Tr) : isNone t.d = false := by cases t <;> rfl
theorem b8 (t : Tn kinds m p f) : bl8 [.u, .f (.list ds), a2, .f (tre m f), .f (.list (kinds.map .str)), .f (.tuple (nmN m f)), .f (.int p), .f (evD p f), .u, a9, .u] = .nx [.u, .f (.list ds), a2, .f (tre m f), .f (.list (kinds.map .str)), .f (.tuple (nmN m f)), .f (.int p), .f (evD p f), .u, a9, .u] := by
  have hbb : ∀ b : Bool, dNe (.bool b) (.bool b) = .ok (.bool false) := fun b => by cases b <;> rfl
  rcases ev_cases t with ⟨k, _, _, e1, e2⟩ | ⟨e1, e2⟩
  · rw [e1]
    have e3 := tr_some (Tr.bt k f)
    generalize (Tr.bt k f).d = TD at *
    simp [bl8, e2, e3, hbb]
  · rw [e1]
    have e3 : isNone .none = true := rfl
    simp [bl8, e2, e3, hbb]
theorem bt_ok (t : Tn kinds m p f) {k : Nat} (hk : k ≤ 3) : (Tr.bt k f).Ok := by
  rw [← Tr.bm_pow]
  have : 2 ^ k ≤ 2 ^ 3 := Nat.pow_le_pow_right (by omega) hk
  exact bm_Ok (by omega) Nat.one_le_two_pow (by omega) (Nat.le_refl _) t.okn
theorem mul_nm (t : Tn kinds m p f) {k : Nat} (h2 : 2 ≤ k) (hk : k ≤ 64) : dMul (.tuple (nmN m f)) (.int k) = .ok (.tuple (nmN (k * m) f)) := by
  rw [dMul_nm t.m1 h2 hk (by have := t.m9; omega), nmN_ext (f := fun i => f (i % m)) (g := f) fun i _ => t.per.mod i]
theorem b9 (t : Tn kinds m p f) : bl9 [.u, .f (.list ds), a2, .f (tre m f), .f (.list (kinds.map .str)), .f (.tuple (nmN m f)), .f (.int p), .f (evD p f), .u, a9, .u] = .nx [.u, .f (.list ds), a2, .f (tre m f), .f (.list (kinds.map .str)), .f (.tuple (nmN m f)), .f (.int p), .f (evD p f), .u, a9, .u] := by
  have m1 := t.m1
  have m9 := t.m9
  rcases ev_cases t with ⟨k, hk, hp, e1, e2⟩ | ⟨e1, e2⟩
  · rw [e1]
    have e3 := tr_some (Tr.bt k f)
    have hO := bt_ok t hk
    have h1 := f_names hO 40 (by omega)
    have e : ((List.range 40).map fun i => PyData.str ((Tr.bt k f).at' i)) = nmN 40 f := nm_self (m := 1) (n := 40) fun i hi => by
      rw [Tr.bt_at, ← hp, t.sh.per.mod]
    rw [e] at h1
    have h2 := mul_nm t (k := 40) (by omega) (by omega)
    have h3 := cut_nm f (q := 40) (m := 40 * m) (by omega)
    have h4 := dNe_nm 40 f
    have h5 := f_tsize hO
    have h6 := f_switches (m := p) t.sh.pos (by have := t.sh.le m1; omega) t.okn
    have e7 : (Tr.bt k f).size = Tr.nd p f := by rw [← Tr.bm_pow, ← hp, Tr.nd_eq f (by omega)]
    rw [e7] at h5
    have h8 := f_tagain hO
    have e8 : (Tr.bt k f).deep = k := by
      have s := t.sh
      rw [hp] at s
      exact s.deep
    rw [e8, ← hp] at h8
    have h9 := cut_nm f (q := p) (m := m) (t.sh.le m1)
    generalize Tr.nd p f = z at *
    generalize (Tr.bt k f).d = TD at *
    generalize nmN (40 * m) f = N40m at *
    generalize nmN 40 f = N40 at *
    generalize nmN m f = NM at *
    generalize nmN p f = NP at *
    clear hp
    simp at h1 h2 h3
    simp [bl9, h1, h2, h3, h4, h5, h6, h8, h9, e3]
  · rw [e1]
    have e3 : isNone .none = true := rfl
    simp [bl9, e3]
theorem b10 (t : Tn kinds m p f) : bl10 [.u, .f (.list ds), a2, .f (tre m f), .f (.list (kinds.map .str)), .f (.tuple (nmN m f)), .f (.int p), .f (evD p f), .u, a9, .u] = .nx [.u, .f (.list ds), a2, .f (tre m f), .f (.list (kinds.map .str)), .f (.tuple (nmN m f)), .f (.int p), .f (evD p f), .f (evD p f), a9, .u] := by
  have m9 := t.m9
  have h2 := mul_nm t (k := 2) (by omega) (by omega)
  have h := f_ever (m := 2 * m) (by have := t.m1; omega) (by omega) (t.per.dvd ⟨2, Nat.mul_comm 2 m⟩) t.sh.twice t.okn (by have := t.sh.le t.m1; omega)
  simp at h2
  generalize nmN (2 * m) f = N2 at *
  simp [bl10, h, h2]
theorem b11 (t : Tn kinds m p f) : bl11 [.u, .f (.list ds), a2, .f (tre m f), .f (.list (kinds.map .str)), .f (.tuple (nmN m f)), .f (.int p), .f (evD p f), .f (evD p f), a9, .u] = .nx [.u, .f (.list ds), a2, .f (tre m f), .f (.list (kinds.map .str)), .f (.tuple (nmN m f)), .f (.int p), .f (evD p f), .f (evD p f), a9, .u] := by
  have m9 := t.m9
  have h1 := f_treefor t.m1 (by omega) t.okn
  have h2 : cutL (nmN m f) none (some (0 : Int)) = [] := by
    have := cut_nm f (q := 0) (m := m) (by omega)
    simp at this
    rw [this]; rfl
  have h3 : dNe (evD p f) (evD p f) = .ok (.bool false) := by
    rcases ev_cases t with ⟨k, hk, hp, e1, e2⟩ | ⟨e1, e2⟩
    · rw [e1]
      exact dNe_tr (by have := Tr.bt_deep k f; omega)
    · rw [e1]; rfl
  have h4 : dNe (tre m f) (tre m f) = .ok (.bool false) := dNe_tr (by have := Tr.bm_deep 6 m f; omega)
  have hl := nmN_len m f
  have hf : fits m = true := fits_ok (by omega)
  unfold tre at *
  generalize (Tr.bm 6 m f).d = TD at *
  generalize evD p f = EV at *
  generalize nmN m f = NM at *
  simp [bl11, h1, h2, h3, h4, hl, hf]
end
end PQ

namespace PQ
open PySem PySem.Spec PyProof.Rows L2
open Tr (Per IsSh perB)
/-- the draws of the law -/
structure Dr (ds : List D) : Prop where
  len : ds.length = 60
  all : ∀ d ∈ ds, isDraw d
theorem Dr.at {ds : List D} (h : Dr ds) {i : Int} (h0 : 0 ≤ i) (h1 : i < 60) : ∃ n : Int, atI ds i = some (.int n) ∧ 0 ≤ n ∧ n < 65521 := by
  obtain ⟨j, rfl⟩ := Int.eq_ofNat_of_zero_le h0
  have hj : j < ds.length := by rw [h.len]; omega
  obtain ⟨n, e, h2, h3⟩ := h.all ds[j] (List.getElem_mem hj)
  exact ⟨n, atI_nat (by rw [List.getElem?_eq_getElem hj, e]), h2, h3⟩
def dAt (ds : List D) (i : Int) : Int := match atI ds i with
  | some (.int n) => n
  | _ => 0
theorem Dr.get {ds : List D} (h : Dr ds) {i : Int} (h0 : 0 ≤ i) (h1 : i < 60) : atI ds i = some (.int (dAt ds i)) ∧ 0 ≤ dAt ds i := by
  obtain ⟨n, e, h2, h3⟩ := h.at h0 h1
  have : dAt ds i = n := by unfold dAt; rw [e]
  rw [this]
  exact ⟨e, h2⟩
theorem turn_ok {ds : List D} (h : Dr ds) (k c mx : Nat) (hk : k < 6) (hc : atI [PyData.int 2, .int 2, .int 3, .int 2, .int 3, .int 1] (k : Int) = some (.int c)) (hm : atI [PyData.int 6, .int 5, .int 4, .int 9, .int 8, .int 7] (k : Int) = some (.int mx))
    (kinds : List Str) (hcut : cutL [PyData.str (Str.ofString "a"), .str (Str.ofString "b"), .str (Str.ofString "cc")] none (some (c : Int)) = kinds.map .str) (hkl : kinds.length = c) (hc1 : 1 ≤ c) (hc3 : c ≤ 3) (hko : ∀ a ∈ kinds, okName a) (hm1 : 1 ≤ mx) (hm9 : mx ≤ 9) :
    ∃ ρ, B_law_2 [.u, .f (.list ds), .f (.int k), .u, .u, .u, .u, .u, .u, .u, .u] = .nx ρ ∧ wipeR ρ [0, 2, 3, 4, 5, 6, 7, 8, 9, 10] = [.u, .f (.list ds), .u, .u, .u, .u, .u, .u, .u, .u, .u] := by
  obtain ⟨g1, g2⟩ := h.get (i := 50 + (k : Int)) (by omega) (by omega)
  have q0 := Int.emod_nonneg (dAt ds (50 + (k : Int))) (show (mx : Int) ≠ 0 by omega)
  have q1 := Int.emod_lt_of_pos (dAt ds (50 + (k : Int))) (show (0 : Int) < mx by omega)
  obtain ⟨m, hmm⟩ : ∃ m : Nat, 1 + dAt ds (50 + (k : Int)) % (mx : Int) = (m : Int) := ⟨(1 + dAt ds (50 + (k : Int)) % (mx : Int)).toNat, by omega⟩
  have m1 : 1 ≤ m := by omega
  have m9 : m ≤ 9 := by omega
  generalize hf0 : (fun j : Nat => fn kinds (dAt ds (9 * (k : Int) + (j : Int)) % (c : Int)).toNat) = f0
  generalize hff : (fun i => f0 (i % m)) = f
  have hP : Per f m := by rw [← hff]; exact per_mod f0 m
  obtain ⟨p, sh⟩ := Tr.isSh_ex m1 hP
  have hc0 : ∀ x : Int, (x % (c : Int)).toNat < kinds.length := fun x => by
    have := Int.emod_nonneg x (show (c : Int) ≠ 0 by omega)
    have := Int.emod_lt_of_pos x (show (0 : Int) < c by omega)
    omega
  have t : Tn kinds m p f := ⟨m1, m9, hP, sh, fun i => by rw [← hff, ← hf0]; exact fn_mem (hc0 _), hko, by omega⟩
  have s1 : bl1 [.u, .f (.list ds), .f (.int k), .u, .u, .u, .u, .u, .u, .u, .u] = .nx [.u, .f (.list ds), .f (.int k), .u, .f (.list (kinds.map .str)), .u, .u, .u, .u, .u, .u] := by
    generalize (c : Int) = ci at *
    simp [bl1, hc, hcut]
  have s2 : bl2 [.u, .f (.list ds), .f (.int k), .u, .f (.list (kinds.map .str)), .u, .u, .u, .u, .u, .u] = .nx [.u, .f (.list ds), .f (.int k), .u, .f (.list (kinds.map .str)), .f (.tuple (nmN m f)), .u, .u, .u, .u, .u] := by
    have hcc : compR (cStep (aName 10) tTrue (e2 dIx (eVar 4) (e2 dMod (eA dInt (eCons (e2 dIx (eVar 1) (e2 dAdd (e2 dMul (eInt 9) (eVar 2)) (eVar 10))) (eNil))) (eA dLen (eCons (eVar 4) (eNil))))) [.u, .f (.list ds), .f (.int k), .u, .f (.list (kinds.map .str)), .u, .u, .u, .u, .u, .u]) (rgD 0 m) = .ok (nmN m f) := by
      rw [rgD_nat]
      refine compR_all _ _ _ fun j hj => ?_
      have hj := List.mem_range.mp hj
      obtain ⟨b1, b2⟩ := h.get (i := 9 * (k : Int) + (j : Int)) (by omega) (by omega)
      have hmo : mulOk 9 k = true := by unfold mulOk; simp
      have hdo : divOk (c : Int) = true := by
        unfold divOk
        rw [decide_eq_true (by omega), decide_eq_true (by omega)]; rfl
      have hfl : fits kinds.length = true := fits_ok (by omega)
      have e1 : f j = fn kinds (dAt ds (9 * (k : Int) + (j : Int)) % (c : Int)).toNat := by
        rw [← hff, ← hf0]
        show fn kinds (dAt ds (9 * (k : Int) + ((j % m : Nat) : Int)) % (c : Int)).toNat = _
        rw [Nat.mod_eq_of_lt hj]
      have e2 := fn_at (hc0 (dAt ds (9 * (k : Int) + (j : Int))))
      rw [show (((dAt ds (9 * (k : Int) + (j : Int)) % (c : Int)).toNat : Nat) : Int) = dAt ds (9 * (k : Int) + (j : Int)) % (c : Int) by
        have := Int.emod_nonneg (dAt ds (9 * (k : Int) + (j : Int))) (show (c : Int) ≠ 0 by omega)
        omega, ← e1] at e2
      generalize dAt ds (9 * (k : Int) + (j : Int)) = dv at *
      have hcp : 0 < c := by omega
      simp [cStep, hmo, b1, hkl, hfl, hdo, e2, hcp]
    have hdm : divOk (mx : Int) = true := by
      unfold divOk
      rw [decide_eq_true (by omega), decide_eq_true (by omega)]; rfl
    have hb : big62 (m : Int) = true := big62_ok (by omega) (by omega)
    have hl := nmN_len m f
    have hf : fits m = true := fits_ok (by omega)
    have hrl : fits (rgD 0 m).length = true := fits_ok (by rw [rgD_len]; omega)
    generalize nmN m f = NM at *
    have hmp : 0 < mx := by omega
    simp [bl2, g1, hm, hdm, hmm, hb, hcc, hl, hf, hrl, dTuple, hmp]
  obtain ⟨a2', a9, s5⟩ := b5 (ds := ds) (a2 := .f (.int k)) t
  refine ⟨_, by rw [bl_eq]; exact seqS s1 (seqS s2 (seqS (b3 t) (seqS (b4 t) (seqS s5 (seqS (b6 t) (seqS (b7 t) (seqS (b8 t) (seqS (b9 t) (seqS (b10 t) (b11 t)))))))))), rfl⟩
theorem law_true (ns : List Int) (hn : ns.length ≤ 63) : F_law ns [] = .ok (.bool true) := by
  obtain ⟨ds, h1, h2, h3⟩ := law_draws ns hn 60 (by omega)
  have h : Dr ds := ⟨h2, h3⟩
  have ca : ∀ a ∈ [Str.ofString "a", Str.ofString "b", Str.ofString "cc"], okName a := by
    intro a ha
    simp only [List.mem_cons, List.not_mem_nil, or_false] at ha
    rcases ha with rfl | rfl | rfl
    · exact ok_a
    · exact ok_b
    · exact ok_cc
  have l6 : forL (aName 2) B_law_2 [0, 2, 3, 4, 5, 6, 7, 8, 9, 10] (rgD 0 6) [.u, .f (.list ds), .u, .u, .u, .u, .u, .u, .u, .u, .u] = .nx [.u, .f (.list ds), .u, .u, .u, .u, .u, .u, .u, .u, .u] := by
    refine forL_const _ fun d hd => ?_
    rw [show (6 : Int) = ((6 : Nat) : Int) from rfl, rgD_nat] at hd
    obtain ⟨k, hk, rfl⟩ := List.mem_map.mp hd
    have hk := List.mem_range.mp hk
    have k1 : ∀ a ∈ [Str.ofString "a"], okName a := fun a ha => ca a (by rw [List.mem_singleton.mp ha]; simp)
    have k2 : ∀ a ∈ [Str.ofString "a", Str.ofString "b"], okName a := fun a ha => ca a (by
      simp only [List.mem_cons, List.not_mem_nil, or_false] at ha ⊢
      rcases ha with q | q
      · exact .inl q
      · exact .inr (.inl q))
    have t : ∃ ρ, B_law_2 [.u, .f (.list ds), .f (.int k), .u, .u, .u, .u, .u, .u, .u, .u] = .nx ρ ∧ wipeR ρ [0, 2, 3, 4, 5, 6, 7, 8, 9, 10] = [.u, .f (.list ds), .u, .u, .u, .u, .u, .u, .u, .u, .u] := by
      rcases (by omega : k = 0 ∨ k = 1 ∨ k = 2 ∨ k = 3 ∨ k = 4 ∨ k = 5) with rfl | rfl | rfl | rfl | rfl | rfl
      · exact turn_ok h 0 2 6 (by omega) rfl rfl _ (by rfl) rfl (by omega) (by omega) k2 (by omega) (by omega)
      · exact turn_ok h 1 2 5 (by omega) rfl rfl _ (by rfl) rfl (by omega) (by omega) k2 (by omega) (by omega)
      · exact turn_ok h 2 3 4 (by omega) rfl rfl _ (by rfl) rfl (by omega) (by omega) ca (by omega) (by omega)
      · exact turn_ok h 3 2 9 (by omega) rfl rfl _ (by rfl) rfl (by omega) (by omega) k2 (by omega) (by omega)
      · exact turn_ok h 4 3 8 (by omega) rfl rfl _ (by rfl) rfl (by omega) (by omega) ca (by omega) (by omega)
      · exact turn_ok h 5 1 7 (by omega) rfl rfl _ (by rfl) rfl (by omega) (by omega) k1 (by omega) (by omega)
    obtain ⟨ρ, t1, t2⟩ := t
    exact ⟨_, ρ, rfl, t1, t2⟩
  have hb : big62 6 = true := by rfl
  have h1' : F__law_draws ns [.int 60] = .ok (.list ds) := h1
  have c1 : F_tree_for [.tuple [.str (Str.ofString "a"), .str (Str.ofString "a"), .str (Str.ofString "b")]] = .ok (.tuple [.str (Str.ofString "switch"), .str (Str.ofString "L"), .tuple [.str (Str.ofString "switch"), .str (Str.ofString "L"), .tuple [.str (Str.ofString "end"), .str (Str.ofString "a")], .tuple [.str (Str.ofString "end"), .str (Str.ofString "b")]], .tuple [.str (Str.ofString "end"), .str (Str.ofString "a")]]) := by rfl
  have c2 : F_tree_for_ever [.tuple [.str (Str.ofString "a"), .str (Str.ofString "b"), .str (Str.ofString "b")]] = .ok .none := by rfl
  have c3 : F_switches_for [.tuple [.str (Str.ofString "a"), .str (Str.ofString "b"), .str (Str.ofString "a"), .str (Str.ofString "c")]] = .ok (.int 2) := by rfl
  have c4 : F_tree_for_ever [.tuple [.str (Str.ofString "a"), .str (Str.ofString "b"), .str (Str.ofString "a"), .str (Str.ofString "b"), .str (Str.ofString "a"), .str (Str.ofString "b")]] = .ok (.tuple [.str (Str.ofString "switch"), .str (Str.ofString "L"), .tuple [.str (Str.ofString "end"), .str (Str.ofString "a")], .tuple [.str (Str.ofString "end"), .str (Str.ofString "b")]]) := by rfl
  have c5 : F_switches_for [.tuple (List.replicate 64 (.str (Str.ofString "a")))] = .ok (.int 0) := by rfl
  have c6 : F_switches_for [.tuple ((List.replicate 31 [PyData.str (Str.ofString "a"), .str (Str.ofString "b")]).flatten ++ [.str (Str.ofString "b"), .str (Str.ofString "a")])] = .ok (.int 11) := by rfl
  have e5 : dMulT (.tuple [.str (Str.ofString "a")]) (.int 64) = .ok (.tuple (List.replicate 64 (.str (Str.ofString "a")))) := dMulT_rep _ (m := 64) (by omega) (by omega)
  have e4 : dMulT (.tuple [.str (Str.ofString "a"), .str (Str.ofString "b")]) (.int 3) = .ok (.tuple [.str (Str.ofString "a"), .str (Str.ofString "b"), .str (Str.ofString "a"), .str (Str.ofString "b"), .str (Str.ofString "a"), .str (Str.ofString "b")]) := by rfl
  have e6 : dMul (.list [.str (Str.ofString "a"), .str (Str.ofString "b")]) (.int 31) = .ok (.list (List.replicate 31 [PyData.str (Str.ofString "a"), .str (Str.ofString "b")]).flatten) := by rfl
  have e7 : (List.replicate 31 [PyData.str (Str.ofString "a"), .str (Str.ofString "b")]).flatten.length = 62 := by rfl
  have f7 : fits 64 = true := by rfl
  have hn1 : dNe (.tuple [.str (Str.ofString "switch"), .str (Str.ofString "L"), .tuple [.str (Str.ofString "switch"), .str (Str.ofString "L"), .tuple [.str (Str.ofString "end"), .str (Str.ofString "a")], .tuple [.str (Str.ofString "end"), .str (Str.ofString "b")]], .tuple [.str (Str.ofString "end"), .str (Str.ofString "a")]]) (.tuple [.str (Str.ofString "switch"), .str (Str.ofString "L"), .tuple [.str (Str.ofString "switch"), .str (Str.ofString "L"), .tuple [.str (Str.ofString "end"), .str (Str.ofString "a")], .tuple [.str (Str.ofString "end"), .str (Str.ofString "b")]], .tuple [.str (Str.ofString "end"), .str (Str.ofString "a")]]) = .ok (.bool false) := dNe_self (by rfl) (Nat.le_of_ble_eq_true (by rfl))
  have heq : dEq (.tuple [.str (Str.ofString "switch"), .str (Str.ofString "L"), .tuple [.str (Str.ofString "end"), .str (Str.ofString "a")], .tuple [.str (Str.ofString "end"), .str (Str.ofString "b")]]) (.tuple [.str (Str.ofString "switch"), .str (Str.ofString "L"), .tuple [.str (Str.ofString "end"), .str (Str.ofString "a")], .tuple [.str (Str.ofString "end"), .str (Str.ofString "b")]]) = .ok (.bool true) := dEq_self (by rfl) (Nat.le_of_ble_eq_true (by rfl))
  generalize (List.replicate 64 (PyData.str (Str.ofString "a"))) = R64 at *
  generalize (List.replicate 31 [PyData.str (Str.ofString "a"), .str (Str.ofString "b")]).flatten = R31 at *
  show runS 11 S_law ns [] = _
  simp [runS, S_law, h1', hb, l6, c1, c2, c3, c4, c5, c6, e4, e5, e6, e7, f7, hn1, heq, dTuple]
end PQ

namespace PQ
open PySem PySem.Spec PyProof.Rows L2
theorem all_law {P : Program} {w : World} {K : PySem.W.Frag} {mg : Str → Option Value} {fa : Addr} (hF : ∀ ns : List Int, ns.length ≤ 63 → F_law ns [] = .ok (.bool true)) (h : ∃ T : Txt P w K mg, T.f_law = fa ∧ ∀ (s : Shared) (v : Value), BindsTo s T.d_law ⟨[v], []⟩ [("script", v)]) :
    ∃ fd : FuncData, (∀ (s : Shared) (u : Value), BindsTo s fd ⟨[u], []⟩ [("script", u)]) ∧ ∀ base : Heap, K.In base → base.Ns mainGlobals mg → FnOk P w K mg base (L2.CX P w) 21 fa fd ["script"] (spLaw K) := by
  obtain ⟨T, rfl, hb⟩ := h
  exact ⟨T.d_law, hb, fun base _ _ => (ok_law T).imp fun vs H Q E q => law_imp hF q⟩
end PQ
open PySem PySem.W PyProof.Rows
set_option maxHeartbeats 0 in
theorem PySem.Challenge.cw_marblewright_k30_whole_built_trees_holds : PySem.Challenge.rw_marblewright_k30_whole_built_trees.Holds := by
  w_on; o_law; k_head; (case hw => w_witness2)
  k_fill
  refine L2.walk_of (l := PySem.Challenge.rw_marblewright_k30_whole_built_trees) (n := 63) (k := 21) (x := "script") (CX := fun w => L2.CX (PySem.Challenge.rw_marblewright_k30_whole_built_trees).prog w) (sp := fun w => PQ.spLaw _) rfl (by decide) rfl ⟨rfl, by decide, by decide⟩ (fun w h Y => PySem.W.kIn_of Y) ?F (fun _ _ a ns hl _ hS => ⟨a, ns, rfl, hS, hl, fun _ => rfl⟩) (fun _ _ _ _ _ h => PQ.cx_false h)
  case F =>
    intro w mg fa h KX G hmg
    refine' PQ.all_law PQ.law_true (PQ.all_mk KX G hmg ?a0 ?l0 ?c0 ?k0 ?a1 ?l1 ?c1 ?k1 ?a2 ?l2 ?c2 ?k2 ?a3 ?l3 ?c3 ?k3 ?a4 ?l4 ?c4 ?k4 ?a5 ?l5 ?c5 ?k5 ?a6 ?l6 ?c6 ?k6 ?a7 ?l7 ?c7 ?k7 ?a8 ?l8 ?c8 ?k8 ?a9 ?l9 ?c9 ?k9 ?a10 ?l10 ?c10 ?k10 ?a11 ?l11 ?c11 ?k11 ?a12 ?l12 ?c12 ?k12 ?a13 ?l13 ?c13 ?k13 ?a14 ?l14 ?c14 ?k14 ?a15 ?l15 ?c15 ?k15 ?a16 ?l16 ?c16 ?k16 ?a17 ?l17 ?c17 ?k17 ?a18 ?l18 ?c18 ?k18 ?a19 ?l19 ?c19 ?k19 ?a20 ?l20 ?c20 ?k20 ?a21 ?l21 ?c21 ?k21 ?a22 ?l22 ?c22 ?k22 ?a23 ?l23 ?c23 ?k23 ?a24 ?l24 ?c24 ?k24 ?aC_BadMany ?xC_BadMany ?kC_BadMany ?bC_BadMany ?tC_BadMany ?aC_BadNames ?xC_BadNames ?kC_BadNames ?bC_BadNames ?tC_BadNames ?aC_BadTree ?xC_BadTree ?kC_BadTree ?bC_BadTree ?tC_BadTree ?z_abs ?z_all ?z_bool ?z_int ?z_isinstance ?z_len ?z_max ?z_range ?z_set ?z_sorted ?z_str ?z_tuple ?g_LETTERS ?g_END ?g_SWITCH ?g_SIDES ?h_SIDES ?z_SIDES ?v_SIDES ?g_MOST_LETTERS ?g_MOST_DEEP ?g_MOST_THINGS ?g_MOST_MARBLES ?g_MOST_NAMES)
    (case a0 => k_is); (case l0 => k_is); (case c0 => k_is); (case k0 => k_is); (case a1 => k_is); (case l1 => k_is); (case c1 => k_is); (case k1 => k_is); (case a2 => k_is); (case l2 => k_is); (case c2 => k_is); (case k2 => k_is); (case a3 => k_is); (case l3 => k_is); (case c3 => k_is); (case k3 => k_is); (case a4 => k_is); (case l4 => k_is); (case c4 => k_is); (case k4 => k_is); (case a5 => k_is); (case l5 => k_is); (case c5 => k_is); (case k5 => k_is); (case a6 => k_is); (case l6 => k_is); (case c6 => k_is); (case k6 => k_is); (case a7 => k_is); (case l7 => k_is); (case c7 => k_is); (case k7 => k_is); (case a8 => k_is); (case l8 => k_is); (case c8 => k_is); (case k8 => k_is); (case a9 => k_is); (case l9 => k_is); (case c9 => k_is); (case k9 => k_is); (case a10 => k_is); (case l10 => k_is); (case c10 => k_is); (case k10 => k_is); (case a11 => k_is); (case l11 => k_is); (case c11 => k_is); (case k11 => k_is); (case a12 => k_is); (case l12 => k_is); (case c12 => k_is); (case k12 => k_is); (case a13 => k_is); (case l13 => k_is); (case c13 => k_is); (case k13 => k_is); (case a14 => k_is); (case l14 => k_is); (case c14 => k_is); (case k14 => k_is); (case a15 => k_is); (case l15 => k_is); (case c15 => k_is); (case k15 => k_is); (case a16 => k_is); (case l16 => k_is); (case c16 => k_is); (case k16 => k_is); (case a17 => k_is); (case l17 => k_is); (case c17 => k_is); (case k17 => k_is); (case a18 => k_is); (case l18 => k_is); (case c18 => k_is); (case k18 => k_is); (case a19 => k_is); (case l19 => k_is); (case c19 => k_is); (case k19 => k_is); (case a20 => k_is); (case l20 => k_is); (case c20 => k_is); (case k20 => k_is); (case a21 => k_is); (case l21 => k_is); (case c21 => k_is); (case k21 => k_is); (case a22 => k_is); (case l22 => k_is); (case c22 => k_is); (case k22 => k_is); (case a23 => k_is); (case l23 => k_is); (case c23 => k_is); (case k23 => k_is); (case a24 => k_is); (case l24 => k_is); (case c24 => k_is); (case k24 => k_is); (case aC_BadMany => k_is); (case xC_BadMany => k_exc); (case kC_BadMany => k_is); (case bC_BadMany => k_is); (case tC_BadMany => k_is); (case aC_BadNames => k_is); (case xC_BadNames => k_exc); (case kC_BadNames => k_is); (case bC_BadNames => k_is); (case tC_BadNames => k_is); (case aC_BadTree => k_is); (case xC_BadTree => k_exc); (case kC_BadTree => k_is); (case bC_BadTree => k_is); (case tC_BadTree => k_is); (case z_abs => k_is); (case z_all => k_is); (case z_bool => k_is); (case z_int => k_is); (case z_isinstance => k_is); (case z_len => k_is); (case z_max => k_is); (case z_range => k_is); (case z_set => k_is); (case z_sorted => k_is); (case z_str => k_is); (case z_tuple => k_is); (case g_LETTERS => k_is); (case g_END => k_is); (case g_SWITCH => k_is); (case g_SIDES => k_is); (case h_SIDES => k_is); (case z_SIDES => exact (by decide +kernel)); (case v_SIDES => exact (.cons ⟨_, rfl⟩ (.cons ⟨_, rfl⟩ .nil))); (case g_MOST_LETTERS => k_is); (case g_MOST_DEEP => k_is); (case g_MOST_THINGS => k_is); (case g_MOST_MARBLES => k_is); (case g_MOST_NAMES => k_is)
