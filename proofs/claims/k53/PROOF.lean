import PyProof.Rows.All
import Wide.All
import OpenK.AllK
import Wide.FinOn
import HandS.ForMost
import HandS.ForExc
import HandS.Wide
import HandS.Deep
import HandS.RaiseMore
import HandS.IsInst
import HandS.SortInts
import HandS.Replace
import HandS.More
import HandS.TryOnly
import KE.KDictKeyed
import KE.KDictDisplayH
import HandS.Ends
import PySem.Challenge.RW_pressluck_k53_asks_gone_through
set_option Elab.async false
set_option linter.all false
set_option maxRecDepth 100000
set_option maxHeartbeats 1000000
/-! The data layer: Python values as plain data over the hand layer. -/
namespace DL
open PySem PySem.Spec L2
abbrev Fg := PySem.W.Frag
/-- the key of a dict as data -/
def kD : Key → PyData
  | .inl i => .int i
  | .inr x => .str x
mutual
/-- the value v stands for the data d -/
inductive Rp (K : Fg) (H : Hp) : V → PyData → Prop
  | non : Rp K H .non .none
  | bl (b : Bool) : Rp K H (.bl b) (.bool b)
  | int (i : Int) : Rp K H (.int i) (.int i)
  | str (x : Str) : Rp K H (.str x) (.str x)
  | lst {a : Addr} {vs : List V} {ds : List PyData} : SqL K H a vs → RpA K H vs ds → Rp K H (.ref a) (.list ds)
  | tup {a : Addr} {vs : List V} {ds : List PyData} : SqT K H a vs → RpA K H vs ds → Rp K H (.ref a) (.tuple ds)
  | dct {a : Addr} {ks : List (Key × V)} {es : List (PyData × PyData)} : H a = some (.dK ks) → RpK K H ks es → Rp K H (.ref a) (.dict es)
inductive RpA (K : Fg) (H : Hp) : List V → List PyData → Prop
  | nil : RpA K H [] []
  | cons {v : V} {vs : List V} {d : PyData} {ds : List PyData} : Rp K H v d → RpA K H vs ds → RpA K H (v :: vs) (d :: ds)
inductive RpK (K : Fg) (H : Hp) : List (Key × V) → List (PyData × PyData) → Prop
  | nil : RpK K H [] []
  | cons {k : Key} {v : V} {ks : List (Key × V)} {d : PyData} {es : List (PyData × PyData)} : Rp K H v d → RpK K H ks es → RpK K H ((k, v) :: ks) ((kD k, d) :: es)
end
theorem sqT_same {K : Fg} {H H' : Hp} {a : Addr} {xs : List V} (e : Same H H') (h : SqT K H a xs) : SqT K H' a xs := by
  rcases h with (h | ⟨o, h⟩) | h
  · exact Or.inl (Or.inl (e a _ h))
  · exact Or.inl (Or.inr ⟨o, e a _ h⟩)
  · exact Or.inr h
mutual
theorem Rp.same {K : Fg} {H H' : Hp} (e : Same H H') : ∀ {v : V} {d : PyData}, Rp K H v d → Rp K H' v d
  | _, _, .non => .non
  | _, _, .bl b => .bl b
  | _, _, .int i => .int i
  | _, _, .str x => .str x
  | _, _, .lst s r => .lst (e.seq s) (RpA.same e r)
  | _, _, .tup s r => .tup (sqT_same e s) (RpA.same e r)
  | _, _, .dct s r => .dct (e _ _ s) (RpK.same e r)
theorem RpA.same {K : Fg} {H H' : Hp} (e : Same H H') : ∀ {vs : List V} {ds : List PyData}, RpA K H vs ds → RpA K H' vs ds
  | _, _, .nil => .nil
  | _, _, .cons r t => .cons (Rp.same e r) (RpA.same e t)
theorem RpK.same {K : Fg} {H H' : Hp} (e : Same H H') : ∀ {ks : List (Key × V)} {es : List (PyData × PyData)}, RpK K H ks es → RpK K H' ks es
  | _, _, .nil => .nil
  | _, _, .cons r t => .cons (Rp.same e r) (RpK.same e t)
end
mutual
/-- as Rp, and every list in it is told of and stood not in N -/
inductive Rn (K : Fg) (N F : Hp) : V → PyData → Prop
  | non : Rn K N F .non .none
  | bl (b : Bool) : Rn K N F (.bl b) (.bool b)
  | int (i : Int) : Rn K N F (.int i) (.int i)
  | str (x : Str) : Rn K N F (.str x) (.str x)
  | lst {a : Addr} {vs : List V} {ds : List PyData} : F a = some (.lst vs) → N a = none → RnA K N F vs ds → Rn K N F (.ref a) (.list ds)
  | tup {a : Addr} {vs : List V} {ds : List PyData} : SqT K F a vs → RnA K N F vs ds → Rn K N F (.ref a) (.tuple ds)
inductive RnA (K : Fg) (N F : Hp) : List V → List PyData → Prop
  | nil : RnA K N F [] []
  | cons {v : V} {vs : List V} {d : PyData} {ds : List PyData} : Rn K N F v d → RnA K N F vs ds → RnA K N F (v :: vs) (d :: ds)
end
mutual
theorem Rn.same {K : Fg} {N F F' : Hp} (e : Same F F') : ∀ {v : V} {d : PyData}, Rn K N F v d → Rn K N F' v d
  | _, _, .non => .non
  | _, _, .bl b => .bl b
  | _, _, .int i => .int i
  | _, _, .str x => .str x
  | _, _, .lst s n r => .lst (e _ _ s) n (RnA.same e r)
  | _, _, .tup s r => .tup (sqT_same e s) (RnA.same e r)
theorem RnA.same {K : Fg} {N F F' : Hp} (e : Same F F') : ∀ {vs : List V} {ds : List PyData}, RnA K N F vs ds → RnA K N F' vs ds
  | _, _, .nil => .nil
  | _, _, .cons r t => .cons (Rn.same e r) (RnA.same e t)
end
mutual
theorem Rn.rp {K : Fg} {N F : Hp} : ∀ {v : V} {d : PyData}, Rn K N F v d → Rp K F v d
  | _, _, .non => .non
  | _, _, .bl b => .bl b
  | _, _, .int i => .int i
  | _, _, .str x => .str x
  | _, _, .lst s n r => .lst (.of s) (RnA.rp r)
  | _, _, .tup s r => .tup s (RnA.rp r)
theorem RnA.rp {K : Fg} {N F : Hp} : ∀ {vs : List V} {ds : List PyData}, RnA K N F vs ds → RpA K F vs ds
  | _, _, .nil => .nil
  | _, _, .cons r t => .cons (Rn.rp r) (RnA.rp t)
end
mutual
theorem Rn.less {K : Fg} {N M F : Hp} (e : Same M N) : ∀ {v : V} {d : PyData}, Rn K N F v d → Rn K M F v d
  | _, _, .non => .non
  | _, _, .bl b => .bl b
  | _, _, .int i => .int i
  | _, _, .str x => .str x
  | _, _, .lst s n r => .lst s (e.free n) (RnA.less e r)
  | _, _, .tup s r => .tup s (RnA.less e r)
theorem RnA.less {K : Fg} {N M F : Hp} (e : Same M N) : ∀ {vs : List V} {ds : List PyData}, RnA K N F vs ds → RnA K M F vs ds
  | _, _, .nil => .nil
  | _, _, .cons r t => .cons (Rn.less e r) (RnA.less e t)
end
theorem RnA.len {K : Fg} {N F : Hp} : ∀ {vs : List V} {ds : List PyData}, RnA K N F vs ds → vs.length = ds.length
  | _, _, .nil => rfl
  | _, _, .cons _ t => by rw [List.length_cons, List.length_cons, RnA.len t]
theorem RnA.app {K : Fg} {N F : Hp} : ∀ {vs ws : List V} {ds es : List PyData}, RnA K N F vs ds → RnA K N F ws es → RnA K N F (vs ++ ws) (ds ++ es)
  | _, _, _, _, .nil, q => q
  | _, _, _, _, .cons r t, q => .cons r (RnA.app t q)
theorem RnA.get {K : Fg} {N F : Hp} : ∀ {vs : List V} {ds : List PyData} {i : Nat} {d : PyData}, RnA K N F vs ds → ds[i]? = some d → ∃ v, vs[i]? = some v ∧ Rn K N F v d
  | _, _, _, _, .nil, e => by simp at e
  | _, _, 0, _, .cons r _, e => by simp at e; subst e; exact ⟨_, rfl, r⟩
  | _, _, i + 1, d, .cons _ t, e => by
    obtain ⟨v, h1, h2⟩ := RnA.get (i := i) (d := d) t (by simpa using e)
    exact ⟨v, by simpa using h1, h2⟩
-- no list and no dict stands in it
mutual
def nolist : PyData → Bool
  | .list _ => false
  | .tuple ds => nolists ds
  | .dict _ => false
  | _ => true
def nolists : List PyData → Bool
  | [] => true
  | d :: ds => nolist d && nolists ds
end
mutual
theorem Rp.rn {K : Fg} {N F : Hp} : ∀ {v : V} {d : PyData}, Rp K F v d → nolist d = true → Rn K N F v d
  | _, _, .non, _ => .non
  | _, _, .bl b, _ => .bl b
  | _, _, .int i, _ => .int i
  | _, _, .str x, _ => .str x
  | _, _, .lst s r, e => by simp [nolist] at e
  | _, _, .tup s r, e => .tup s (RpA.rn r e)
  | _, _, .dct _ _, e => by simp [nolist] at e
theorem RpA.rn {K : Fg} {N F : Hp} : ∀ {vs : List V} {ds : List PyData}, RpA K F vs ds → nolists ds = true → RnA K N F vs ds
  | _, _, .nil, _ => .nil
  | _, _, .cons r t, e => by
    simp only [nolists, Bool.and_eq_true] at e
    exact .cons (Rp.rn r e.1) (RpA.rn t e.2)
end
theorem RpA.len {K : Fg} {H : Hp} : ∀ {vs : List V} {ds : List PyData}, RpA K H vs ds → vs.length = ds.length
  | _, _, .nil => rfl
  | _, _, .cons _ t => by rw [List.length_cons, List.length_cons, RpA.len t]
theorem RpA.app {K : Fg} {H : Hp} : ∀ {vs ws : List V} {ds es : List PyData}, RpA K H vs ds → RpA K H ws es → RpA K H (vs ++ ws) (ds ++ es)
  | _, _, _, _, .nil, q => q
  | _, _, _, _, .cons r t, q => .cons r (RpA.app t q)
theorem RpA.get {K : Fg} {H : Hp} : ∀ {vs : List V} {ds : List PyData} {i : Nat} {d : PyData}, RpA K H vs ds → ds[i]? = some d → ∃ v, vs[i]? = some v ∧ Rp K H v d
  | _, _, _, _, .nil, e => by simp at e
  | _, _, 0, _, .cons r _, e => by simp at e; subst e; exact ⟨_, rfl, r⟩
  | _, _, i + 1, d, .cons _ t, e => by
    obtain ⟨v, h1, h2⟩ := RpA.get (i := i) (d := d) t (by simpa using e)
    exact ⟨v, by simpa using h1, h2⟩
theorem RpA.getV {K : Fg} {H : Hp} : ∀ {vs : List V} {ds : List PyData} {i : Nat} {v : V}, RpA K H vs ds → vs[i]? = some v → ∃ d, ds[i]? = some d ∧ Rp K H v d
  | _, _, _, _, .nil, e => by simp at e
  | _, _, 0, _, .cons r _, e => by simp at e; subst e; exact ⟨_, rfl, r⟩
  | _, _, i + 1, d, .cons _ t, e => by
    obtain ⟨v, h1, h2⟩ := RpA.getV (i := i) (v := d) t (by simpa using e)
    exact ⟨v, by simpa using h1, h2⟩
theorem RpA.take {K : Fg} {H : Hp} : ∀ {vs : List V} {ds : List PyData} (n : Nat), RpA K H vs ds → RpA K H (vs.take n) (ds.take n)
  | _, _, 0, _ => by rw [List.take_zero, List.take_zero]; exact .nil
  | _, _, n + 1, .nil => by rw [List.take_nil, List.take_nil]; exact .nil
  | _, _, n + 1, .cons r t => by rw [List.take_succ_cons, List.take_succ_cons]; exact .cons r (RpA.take n t)
theorem RpA.drop {K : Fg} {H : Hp} : ∀ {vs : List V} {ds : List PyData} (n : Nat), RpA K H vs ds → RpA K H (vs.drop n) (ds.drop n)
  | _, _, 0, r => r
  | _, _, n + 1, .nil => by rw [List.drop_nil, List.drop_nil]; exact .nil
  | _, _, n + 1, .cons r t => by rw [List.drop_succ_cons, List.drop_succ_cons]; exact RpA.drop n t
theorem RpA.set {K : Fg} {H : Hp} {v : V} {d : PyData} (q : Rp K H v d) : ∀ {vs : List V} {ds : List PyData} (n : Nat), RpA K H vs ds → RpA K H (vs.set n v) (ds.set n d)
  | _, _, _, .nil => .nil
  | _, _, 0, .cons _ t => .cons q t
  | _, _, n + 1, .cons r t => .cons r (RpA.set q n t)
theorem RpA.rev {K : Fg} {H : Hp} : ∀ {vs : List V} {ds : List PyData}, RpA K H vs ds → RpA K H vs.reverse ds.reverse
  | _, _, .nil => .nil
  | _, _, .cons r t => by
    rw [List.reverse_cons, List.reverse_cons]
    exact (RpA.rev t).app (.cons r .nil)
theorem RpA.ints {K : Fg} {H : Hp} : ∀ ns : List Int, RpA K H (ns.map V.int) (ns.map PyData.int)
  | [] => .nil
  | n :: ns => .cons (.int n) (RpA.ints ns)
theorem RpA.strs {K : Fg} {H : Hp} : ∀ ns : List Str, RpA K H (ns.map V.str) (ns.map PyData.str)
  | [] => .nil
  | n :: ns => .cons (.str n) (RpA.strs ns)
theorem RpA.ints' {K : Fg} {H : Hp} : ∀ {vs : List V} {ns : List Int}, RpA K H vs (ns.map PyData.int) → vs = ns.map V.int
  | _, [], .nil => rfl
  | _, n :: ns, .cons r t => by cases r; rw [RpA.ints' t]; rfl
theorem RpA.strs' {K : Fg} {H : Hp} : ∀ {vs : List V} {ns : List Str}, RpA K H vs (ns.map PyData.str) → vs = ns.map V.str
  | _, [], .nil => rfl
  | _, n :: ns, .cons r t => by cases r; rw [RpA.strs' t]; rfl

-- no dict stands in it
mutual
def nodict : PyData → Bool
  | .list ds => nodicts ds
  | .tuple ds => nodicts ds
  | .dict _ => false
  | _ => true
def nodicts : List PyData → Bool
  | [] => true
  | d :: ds => nodict d && nodicts ds
end
mutual
theorem Rp.dp {K : Fg} {H : Hp} : ∀ {v : V} {d : PyData}, Rp K H v d → nodict d = true → Dp K H v d
  | _, _, .non, _ => .non
  | _, _, .bl b, _ => .bl b
  | _, _, .int i, _ => .int i
  | _, _, .str x, _ => .str x
  | _, _, .lst s r, e => .lst s (RpA.dp r e)
  | _, _, .tup s r, e => .tup s (RpA.dp r e)
  | _, _, .dct _ _, e => by simp [nodict] at e
theorem RpA.dp {K : Fg} {H : Hp} : ∀ {vs : List V} {ds : List PyData}, RpA K H vs ds → nodicts ds = true → DpAll K H vs ds
  | _, _, .nil, _ => .nil
  | _, _, .cons r t, e => by
    simp only [nodicts, Bool.and_eq_true] at e
    exact .cons (Rp.dp r e.1) (RpA.dp t e.2)
end

/-- as Rp, but the list or dict itself may be one that still changes (it stands in H, its parts in F) -/
inductive Rs (K : Fg) (F H : Hp) : V → PyData → Prop
  | st {v : V} {d : PyData} : Rp K F v d → Rs K F H v d
  | lst {a : Addr} {vs : List V} {ds : List PyData} : SqL K H a vs → RpA K F vs ds → Rs K F H (.ref a) (.list ds)
  | dct {a : Addr} {ks : List (Key × V)} {es : List (PyData × PyData)} : H a = some (.dK ks) → RpK K F ks es → Rs K F H (.ref a) (.dict es)
inductive RsA (K : Fg) (F H : Hp) : List V → List PyData → Prop
  | nil : RsA K F H [] []
  | cons {v : V} {vs : List V} {d : PyData} {ds : List PyData} : Rs K F H v d → RsA K F H vs ds → RsA K F H (v :: vs) (d :: ds)
section
variable {K : Fg} {F H : Hp}
theorem Rs.rp (s : Same F H) {v : V} {d : PyData} (r : Rs K F H v d) : Rp K H v d := by
  cases r with
  | st r => exact r.same s
  | lst h r => exact .lst h (r.same s)
  | dct h r => exact .dct h (r.same s)
theorem RsA.rp (s : Same F H) : ∀ {vs : List V} {ds : List PyData}, RsA K F H vs ds → RpA K H vs ds
  | _, _, .nil => .nil
  | _, _, .cons r t => .cons (r.rp s) (RsA.rp s t)
theorem Rs.list (s : Same F H) {v : V} {ds : List PyData} (r : Rs K F H v (.list ds)) : ∃ a vs, v = .ref a ∧ SqL K H a vs ∧ RpA K F vs ds := by
  cases r with
  | st r => cases r with
    | lst h r => exact ⟨_, _, rfl, s.seq h, r⟩
  | lst h r => exact ⟨_, _, rfl, h, r⟩
theorem Rs.tuple (s : Same F H) {v : V} {ds : List PyData} (r : Rs K F H v (.tuple ds)) : ∃ a vs, v = .ref a ∧ SqT K H a vs ∧ RpA K F vs ds := by
  cases r with
  | st r => cases r with
    | tup h r => exact ⟨_, _, rfl, sqT_same s h, r⟩
theorem Rs.tupleF {v : V} {ds : List PyData} (r : Rs K F H v (.tuple ds)) : Rp K F v (.tuple ds) := by
  cases r with
  | st r => exact r
theorem Rs.dict (s : Same F H) {v : V} {es : List (PyData × PyData)} (r : Rs K F H v (.dict es)) : ∃ a ks, v = .ref a ∧ H a = some (.dK ks) ∧ RpK K F ks es := by
  cases r with
  | st r => cases r with
    | dct h r => exact ⟨_, _, rfl, s _ _ h, r⟩
  | dct h r => exact ⟨_, _, rfl, h, r⟩
theorem Rs.int {v : V} {i : Int} (r : Rs K F H v (.int i)) : v = .int i := by
  cases r with
  | st r => cases r; rfl
theorem Rs.str {v : V} {x : Str} (r : Rs K F H v (.str x)) : v = .str x := by
  cases r with
  | st r => cases r; rfl
theorem Rs.bl {v : V} {b : Bool} (r : Rs K F H v (.bool b)) : v = .bl b := by
  cases r with
  | st r => cases r; rfl
theorem RsA.len : ∀ {vs : List V} {ds : List PyData}, RsA K F H vs ds → vs.length = ds.length
  | _, _, .nil => rfl
  | _, _, .cons _ t => by rw [List.length_cons, List.length_cons, RsA.len t]
end

/-! ### results -/
/-- what an expression comes to: a value, an exception of the class of that name, or nothing that is told -/
inductive R (α : Type) where
  | ok (a : α)
  | exc (n : Str)
  | bad
@[reducible, simp] def R.bind {α β : Type} (r : R α) (f : α → R β) : R β := match r with
  | .ok a => f a
  | .exc n => .exc n
  | .bad => .bad
@[simp] theorem bind_ok {α β : Type} (a : α) (f : α → R β) : (R.ok a).bind f = f a := rfl
@[simp] theorem bind_exc {α β : Type} (n : Str) (f : α → R β) : (R.exc n : R α).bind f = .exc n := rfl
@[simp] theorem bind_bad {α β : Type} (f : α → R β) : (R.bad : R α).bind f = .bad := rfl

/-- what a name holds: nothing, data that stands still, a list of its own, a dict of its own -/
inductive Slot where
  | un
  | sh (d : PyData)
  | own (ds : List PyData)
  | odc (es : List (PyData × PyData))
  | kn
  | nw (d : PyData)
  | owN (ds : List PyData)
abbrev En := List Slot

/-- f: what is told of; h: what stands there; both grow -/
structure Ext (F H F' H' : Hp) : Prop where
  f : Same F F'
  h : Same H H'
  s : Same F' H'
  n : ∀ p o, F' p = some o → F p = some o ∨ H p = none
theorem Ext.refl {F H : Hp} (s : Same F H) : Ext F H F H := ⟨Same.refl F, Same.refl H, s, fun _ _ e => Or.inl e⟩
theorem Ext.trans {F H F1 H1 F2 H2 : Hp} (a : Ext F H F1 H1) (b : Ext F1 H1 F2 H2) : Ext F H F2 H2 :=
  ⟨a.f.trans b.f, a.h.trans b.h, b.s, fun p o e => (b.n p o e).elim (fun q => a.n p o q) fun q => Or.inr (a.h.free q)⟩
theorem same_new {H : Hp} {p : Addr} {o : HO} (h : H p = none) : Same H (upd H p o) := fun b x e => by
  rw [upd_ne (ne_of_none e h)]
  exact e
/-- a new object that is told of -/
theorem Ext.new {F H : Hp} {p : Addr} {o : HO} (s : Same F H) (h : H p = none) : Ext F H (upd F p o) (upd H p o) := by
  refine ⟨same_new (s.free h), same_new h, fun b x e => ?_, fun b x e => ?_⟩
  · by_cases z : b = p
    · subst z; rw [upd_same] at e ⊢; exact e
    · rw [upd_ne z] at e ⊢; exact s b x e
  · by_cases z : b = p
    · subst z; exact Or.inr h
    · rw [upd_ne z] at e; exact Or.inl e
/-- a new object that is not told of -/
theorem Ext.own {F H : Hp} {p : Addr} {o : HO} (s : Same F H) (h : H p = none) : Ext F H F (upd H p o) :=
  ⟨Same.refl F, same_new h, fun b x e => same_new h b x (s b x e), fun _ _ e => Or.inl e⟩
/-- an object that stood there already comes to be told of -/
theorem Same.freeze {F H : Hp} {p : Addr} {o : HO} (s : Same F H) (h : H p = some o) : Same (upd F p o) H := fun b x e => by
  by_cases z : b = p
  · subst z; rw [upd_same] at e; rw [← e]; exact h
  · rw [upd_ne z] at e; exact s b x e

/-- class names to their values; the wish about exceptions; what was told of, and what stood there, at the entry -/
structure Cc where
  ca : Str → Value
  W : WX
  F0 : Hp
  H0 : Hp
  /-- what counts as old; the value of the one name that stays told by itself -/
  Hn : Hp
  kn : V

def SlotOk (K : Fg) (c : Cc) (F H : Hp) : Slot → Option (Option V) → Prop
  | .un, _ => True
  | .sh d, x => ∃ v, x = some (some v) ∧ Rp K F v d
  | .own ds, x => ∃ p vs, x = some (some (.ref p)) ∧ H p = some (.lst vs) ∧ F p = none ∧ c.H0 p = none ∧ RpA K F vs ds
  | .odc es, x => ∃ p ks, x = some (some (.ref p)) ∧ H p = some (.dK ks) ∧ F p = none ∧ c.H0 p = none ∧ RpK K F ks es
  | .kn, x => x = some (some c.kn)
  | .nw d, x => ∃ v, x = some (some v) ∧ Rn K c.Hn F v d
  | .owN ds, x => ∃ p vs, x = some (some (.ref p)) ∧ H p = some (.lst vs) ∧ F p = none ∧ c.H0 p = none ∧ RnA K c.Hn F vs ds
def isOwn : Slot → Bool
  | .own _ => true
  | .odc _ => true
  | .owN _ => true
  | _ => false
theorem Rs.ext {K : Fg} {F H F' H' : Hp} {v : V} {d : PyData} (x : Ext F H F' H') (r : Rs K F H v d) : Rs K F' H' v d := by
  cases r with
  | st r => exact .st (r.same x.f)
  | lst h r => exact .lst (x.h.seq h) (r.same x.f)
  | dct h r => exact .dct (x.h _ _ h) (r.same x.f)
theorem RsA.ext {K : Fg} {F H F' H' : Hp} (x : Ext F H F' H') : ∀ {vs : List V} {ds : List PyData}, RsA K F H vs ds → RsA K F' H' vs ds
  | _, _, .nil => .nil
  | _, _, .cons r t => .cons (r.ext x) (RsA.ext x t)
structure Rl (K : Fg) (c : Cc) (F H : Hp) (ρ : En) (σ : St) : Prop where
  len : ρ.length = σ.length
  e : Ext c.F0 c.H0 F H
  at_ : ∀ (i : Nat) (s : Slot), ρ[i]? = some s → SlotOk K c F H s σ[i]?
  one : ∀ (i j : Nat) (s t : Slot) (p : Addr), ρ[i]? = some s → ρ[j]? = some t → isOwn s = true → isOwn t = true → σ[i]? = some (some (.ref p)) → σ[j]? = some (some (.ref p)) → i = j
section
variable {K : Fg} {c : Cc} {F H F' H' : Hp} {ρ : En} {σ : St}
theorem Ext.own_none {F H F' H' : Hp} (x : Ext F H F' H') {p : Addr} {o : HO} (h : H p = some o) (n : F p = none) : F' p = none := by
  cases q : F' p with
  | none => rfl
  | some u =>
    rcases x.n p u q with z | z
    · rw [n] at z; cases z
    · rw [h] at z; cases z
theorem SlotOk.ext (x : Ext F H F' H') : ∀ {s : Slot} {y : Option (Option V)}, SlotOk K c F H s y → SlotOk K c F' H' s y
  | .un, _, _ => trivial
  | .sh d, _, ⟨v, e, r⟩ => ⟨v, e, r.same x.f⟩
  | .own ds, _, ⟨p, vs, e, h, n, n0, r⟩ => ⟨p, vs, e, x.h _ _ h, x.own_none h n, n0, r.same x.f⟩
  | .odc es, _, ⟨p, ks, e, h, n, n0, r⟩ => ⟨p, ks, e, x.h _ _ h, x.own_none h n, n0, r.same x.f⟩
  | .kn, _, e => e
  | .nw d, _, ⟨v, e, r⟩ => ⟨v, e, r.same x.f⟩
  | .owN ds, _, ⟨p, vs, e, h, n, n0, r⟩ => ⟨p, vs, e, x.h _ _ h, x.own_none h n, n0, r.same x.f⟩
theorem Rl.ext (r : Rl K c F H ρ σ) (x : Ext F H F' H') : Rl K c F' H' ρ σ := ⟨r.len, r.e.trans x, fun i s e => (r.at_ i s e).ext x, r.one⟩
theorem Rl.s (r : Rl K c F H ρ σ) : Same F H := r.e.s
end

/-- the outcome r, wanted: G of a value -/
def Po (c : Cc) (σ : St) (F H : Hp) {α : Type} (r : R α) (G : α → Hp → Hp → Prop) : Prop := match r with
  | .ok a => ∀ F' H', Ext F H F' H' → G a F' H'
  | .exc n => ∀ F' H', Ext F H F' H' → c.W (c.ca n) none σ H'
  | .bad => False
theorem Po.mono {c : Cc} {σ : St} {F H : Hp} {α : Type} {r : R α} {G G' : α → Hp → Hp → Prop} (h : Po c σ F H r G) (m : ∀ a F' H', r = .ok a → Ext F H F' H' → G a F' H' → G' a F' H') : Po c σ F H r G' := by
  cases r with
  | ok a => exact fun F' H' x => m a F' H' rfl x (h F' H' x)
  | exc n => exact h
  | bad => exact h
theorem Po.ext {c : Cc} {σ : St} {F H F1 H1 : Hp} {α : Type} {r : R α} {G : α → Hp → Hp → Prop} (h : Po c σ F H r G) (x : Ext F H F1 H1) : Po c σ F1 H1 r G := by
  cases r with
  | ok a => exact fun F' H' y => h F' H' (x.trans y)
  | exc n => exact fun F' H' y => h F' H' (x.trans y)
  | bad => exact h
theorem Po.bind {c : Cc} {σ : St} {F H : Hp} {α β : Type} {r : R α} {k : α → R β} {G : β → Hp → Hp → Prop} (h : Po c σ F H (r.bind k) G) : Po c σ F H r fun a F1 H1 => Po c σ F1 H1 (k a) G := by
  cases r with
  | ok a => exact fun F' H' x => Po.ext h x
  | exc n => exact h
  | bad => exact h

/-! ### the readings by data -/
def tE (K : Fg) (c : Cc) (f : En → R PyData) : TE := fun σ H Q => ∃ F ρ, Rl K c F H ρ σ ∧ Po c σ F H (f ρ) fun d F' H' => ∀ v, Rp K F' v d → Q v H'
/-- a value that is only looked at -/
def tP (K : Fg) (c : Cc) (f : En → R PyData) : TE := fun σ H Q => ∃ F ρ, Rl K c F H ρ σ ∧ Po c σ F H (f ρ) fun d _ H' => ∀ v, Rp K H' v d → Q v H'
/-- a value whose parts stay -/
def tS (K : Fg) (c : Cc) (f : En → R PyData) : TE := fun σ H Q => ∃ F ρ, Rl K c F H ρ σ ∧ Po c σ F H (f ρ) fun d F' H' => ∀ v, Rs K F' H' v d → Q v H'
def tAS (K : Fg) (c : Cc) (f : En → R (List PyData)) : TA := fun σ H Q => ∃ F ρ, Rl K c F H ρ σ ∧ Po c σ F H (f ρ) fun ds F' H' => ∀ vs, RsA K F' H' vs ds → Q vs H'
def tT (K : Fg) (c : Cc) (f : En → R Bool) : TT := fun σ H Q => ∃ F ρ, Rl K c F H ρ σ ∧ Po c σ F H (f ρ) fun b _ H' => Q b H'
def tA (K : Fg) (c : Cc) (f : En → R (List PyData)) : TA := fun σ H Q => ∃ F ρ, Rl K c F H ρ σ ∧ Po c σ F H (f ρ) fun ds F' H' => ∀ vs, RpA K F' vs ds → Q vs H'
def tAP (K : Fg) (c : Cc) (f : En → R (List PyData)) : TA := fun σ H Q => ∃ F ρ, Rl K c F H ρ σ ∧ Po c σ F H (f ρ) fun ds _ H' => ∀ vs, RpA K H' vs ds → Q vs H'
/-- a new list -/
def tL (K : Fg) (c : Cc) (f : En → R (List PyData)) : TE := fun σ H Q => ∃ F ρ, Rl K c F H ρ σ ∧ Po c σ F H (f ρ) fun ds F' H' => ∀ p vs, H' p = some (.lst vs) → F' p = none → H p = none → RpA K F' vs ds → Q (.ref p) H'
/-- a new dict -/
def tD (K : Fg) (c : Cc) (f : En → R (List (PyData × PyData))) : TE := fun σ H Q => ∃ F ρ, Rl K c F H ρ σ ∧ Po c σ F H (f ρ) fun es F' H' => ∀ p ks, H' p = some (.dK ks) → F' p = none → H p = none → RpK K F' ks es → Q (.ref p) H'

theorem pe_imp {X : Cx} {e : Expr} {t t' : TE} (h : PE X e t) (m : ∀ σ H Q, t' σ H Q → t σ H Q) : PE X e t' := ⟨fun pins s σ H Q I q => h.run pins s σ H Q I (m σ H Q q)⟩
theorem pt_imp {X : Cx} {e : Expr} {t t' : TT} (h : PT X e t) (m : ∀ σ H Q, t' σ H Q → t σ H Q) : PT X e t' := ⟨fun pins s σ H Q I q => h.run pins s σ H Q I (m σ H Q q)⟩
theorem pw_imp {X : Cx} {e : Expr} {t t' : TT} (h : PW X e t) (m : ∀ σ H Q, t' σ H Q → t σ H Q) : PW X e t' := ⟨fun wh pins s σ H Q I q => h.run wh pins s σ H Q I (m σ H Q q)⟩
theorem pa_imp {X : Cx} {es : List Expr} {t t' : TA} (h : PA X es t) (m : ∀ σ H Q, t' σ H Q → t σ H Q) : PA X es t' := ⟨fun p pins s σ H Q I q => h.run p pins s σ H Q I (m σ H Q q)⟩
theorem ps_imp {X : Cx} {st : Stmt} {t t' : TS} (h : PS X st t) (m : ∀ D σ H, t' D σ H → t D σ H) : PS X st t' := ⟨fun pins s σ H D I q => h.run pins s σ H D I (m D σ H q)⟩
theorem pss_imp {X : Cx} {st : List Stmt} {t t' : TS} (h : PSs X st t) (m : ∀ D σ H, t' D σ H → t D σ H) : PSs X st t' := ⟨fun pins s σ H D I q => h.run pins s σ H D I (m D σ H q)⟩

section
variable {X : Cx} {c : Cc} {e a b : Expr} {es : List Expr} {f fa fb : En → R PyData} {pos : Pos}
/-- a value that stays is a value that is looked at -/
theorem toP (h : PE X e (tE X.K c f)) : PE X e (tP X.K c f) := pe_imp h fun σ H Q ⟨F, ρ, r, q⟩ =>
  ⟨F, ρ, r, q.mono fun d F' H' _ x g v rv => g v (rv.same x.s)⟩
theorem toS (h : PE X e (tE X.K c f)) : PE X e (tS X.K c f) := pe_imp h fun σ H Q ⟨F, ρ, r, q⟩ =>
  ⟨F, ρ, r, q.mono fun d F' H' _ x g v rv => g v (.st rv)⟩
theorem sP (h : PE X e (tS X.K c f)) : PE X e (tP X.K c f) := pe_imp h fun σ H Q ⟨F, ρ, r, q⟩ =>
  ⟨F, ρ, r, q.mono fun d F' H' _ x g v rv => g v (rv.rp x.s)⟩
/-- a new list as a value -/
theorem ofL {f : En → R (List PyData)} (h : PE X e (tL X.K c f)) : PE X e (tE X.K c fun ρ => (f ρ).bind fun ds => .ok (.list ds)) := pe_imp h fun σ H Q ⟨F, ρ, r, q⟩ => by
  refine ⟨F, ρ, r, ?_⟩
  dsimp only at q
  cases hf : f ρ with
  | ok ds =>
    rw [hf] at q
    refine fun F' H' x p vs hp fp np rv => ?_
    have sm : Same F' (upd F' p (.lst vs)) := same_new fp
    refine q _ H' ⟨x.f.trans sm, x.h, Same.freeze x.s hp, fun b o e => ?_⟩ _ (.lst (.of upd_same) (rv.same sm))
    by_cases z : b = p
    · subst z; exact Or.inr np
    · rw [upd_ne z] at e; exact x.n b o e
  | exc n => rw [hf] at q; exact q
  | bad => rw [hf] at q; exact q
end
end DL
set_option Elab.async false
set_option linter.all false
set_option maxRecDepth 100000
set_option maxHeartbeats 1000000
/-! Expressions of the data layer. -/
namespace DL
open PySem PySem.Spec L2
/-! ### names and constants -/
@[simp] def xVar (i : Nat) : En → R PyData := fun ρ => match ρ[i]? with
  | some (.sh d) => .ok d
  | some (.nw d) => .ok d
  | _ => .bad
@[simp] def xPk (i : Nat) : En → R PyData := fun ρ => match ρ[i]? with
  | some (.sh d) => .ok d
  | some (.own ds) => .ok (.list ds)
  | some (.odc es) => .ok (.dict es)
  | some (.nw d) => .ok d
  | some (.owN ds) => .ok (.list ds)
  | _ => .bad
@[simp] def xC (d : PyData) : En → R PyData := fun _ => .ok d
/-- data without a place in the heap -/
def flat : PyData → Bool
  | .none => true
  | .bool _ => true
  | .int _ => true
  | .str _ => true
  | _ => false
theorem Rp.flat {K : Fg} {H F : Hp} {v : V} {d : PyData} (r : Rp K H v d) (h : flat d = true) : Rp K F v d := by
  cases r with
  | non => exact .non
  | bl b => exact .bl b
  | int i => exact .int i
  | str x => exact .str x
  | lst _ _ => cases h
  | tup _ _ => cases h
  | dct _ _ => cases h
section
variable {X : Cx} {c : Cc} {e a b : Expr} {es : List Expr} {f fa fb : En → R PyData} {pos : Pos}
theorem eVar (i : Nat) {x : Str} (hN : X.N[i]? = some x := by rfl) (hv : Vis X.env.scope x := by first | exact Or.inl rfl | exact Or.inr (Or.inl rfl) | exact Or.inr (Or.inr rfl)) (hd : (x == ("__debug__" : Str)) = false := by decide)
    (hcd : (x == ("__classdict__" : Str)) = false := by decide) : PE X (.Name x pos) (tE X.K c (xVar i)) := pe_imp (pe_var hN hv hd hcd) fun σ H Q ⟨F, ρ, r, q⟩ => by
  unfold xVar at q
  cases hs : ρ[i]? with
  | none => rw [hs] at q; exact q.elim
  | some s =>
    rw [hs] at q
    cases s with
    | sh d =>
      obtain ⟨v, e, rv⟩ := r.at_ i _ hs
      exact ⟨v, e, q F H (Ext.refl r.s) v rv⟩
    | un => exact q.elim
    | own ds => exact q.elim
    | odc ds => exact q.elim
    | kn => exact q.elim
    | owN ds => exact q.elim
    | nw d =>
      obtain ⟨v, e, rv⟩ := r.at_ i _ hs
      exact ⟨v, e, q F H (Ext.refl r.s) v rv.rp⟩
theorem pVar (i : Nat) {x : Str} (hN : X.N[i]? = some x := by rfl) (hv : Vis X.env.scope x := by first | exact Or.inl rfl | exact Or.inr (Or.inl rfl) | exact Or.inr (Or.inr rfl)) (hd : (x == ("__debug__" : Str)) = false := by decide)
    (hcd : (x == ("__classdict__" : Str)) = false := by decide) : PE X (.Name x pos) (tS X.K c (xPk i)) := pe_imp (pe_var hN hv hd hcd) fun σ H Q ⟨F, ρ, r, q⟩ => by
  unfold xPk at q
  cases hs : ρ[i]? with
  | none => rw [hs] at q; exact q.elim
  | some s =>
    rw [hs] at q
    cases s with
    | sh d =>
      obtain ⟨v, e, rv⟩ := r.at_ i _ hs
      exact ⟨v, e, q F H (Ext.refl r.s) v (.st rv)⟩
    | un => exact q.elim
    | own ds =>
      obtain ⟨p, vs, e, h, _, _, rv⟩ := r.at_ i _ hs
      exact ⟨_, e, q F H (Ext.refl r.s) _ (.lst (.of h) rv)⟩
    | odc ds =>
      obtain ⟨p, vs, e, h, _, _, rv⟩ := r.at_ i _ hs
      exact ⟨_, e, q F H (Ext.refl r.s) _ (.dct h rv)⟩
    | kn => exact q.elim
    | nw d =>
      obtain ⟨v, e, rv⟩ := r.at_ i _ hs
      exact ⟨v, e, q F H (Ext.refl r.s) v (.st rv.rp)⟩
    | owN ds =>
      obtain ⟨p, vs, e, h, _, _, rv⟩ := r.at_ i _ hs
      exact ⟨_, e, q F H (Ext.refl r.s) _ (.lst (.of h) rv.rp)⟩
theorem cst {v : V} {d : PyData} (h : PE X e (tC v)) (rv : ∀ F, Rp X.K F v d) : PE X e (tE X.K c (xC d)) := pe_imp h fun σ H Q ⟨F, ρ, r, q⟩ => q F H (Ext.refl r.s) v (rv F)
theorem eInt {i : Int} {j} : PE X (.Constant (.int i) j pos) (tE X.K c (xC (.int i))) := cst pe_int fun _ => .int i
theorem eBl {b : Bool} {j} : PE X (.Constant (.bool b) j pos) (tE X.K c (xC (.bool b))) := cst pe_bl fun _ => .bl b
theorem eNon {j} : PE X (.Constant .none j pos) (tE X.K c (xC .none)) := cst pe_non fun _ => .non
theorem eStr {x : Str} {j} : PE X (.Constant (.str x) j pos) (tE X.K c (xC (.str x))) := cst pe_str fun _ => .str x
/-- a module's number, a module's text -/
theorem eGlI {x : Str} {i : Int} (hg : Gl X x) (hm : ∃ t, X.mg x = some (.int i t)) (hd : (x == ("__debug__" : Str)) = false := by decide) : PE X (.Name x pos) (tE X.K c (xC (.int i))) := by
  obtain ⟨t, hm⟩ := hm
  exact cst (pe_glob hg hm (v := .int i) ⟨t, rfl⟩ hd) fun _ => .int i
theorem eGlS {x y : Str} (hg : Gl X x) (hm : ∃ t, X.mg x = some (.str y t)) (hd : (x == ("__debug__" : Str)) = false := by decide) : PE X (.Name x pos) (tE X.K c (xC (.str y))) := by
  obtain ⟨t, hm⟩ := hm
  exact cst (pe_glob hg hm (v := .str y) ⟨t, rfl⟩ hd) fun _ => .str y
/-- a value of a flat kind stays, however it was come by -/
def xFl (f : En → R PyData) : En → R PyData := fun ρ => (f ρ).bind fun d => if flat d = true then .ok d else .bad
theorem eFl (h : PE X e (tP X.K c f)) : PE X e (tE X.K c (xFl f)) := pe_imp h fun σ H Q ⟨F, ρ, r, q⟩ => by
  refine ⟨F, ρ, r, (Po.bind q).mono fun d F' H' _ x g v rv => ?_⟩
  by_cases hf : flat d = true
  · rw [if_pos hf] at g
    exact g F' H' (Ext.refl x.s) v (rv.flat hf)
  · rw [if_neg hf] at g
    exact g.elim
end

/-! ### two operands -/
@[simp] def xB (op : PyData → PyData → R PyData) (fa fb : En → R PyData) : En → R PyData := fun ρ => (fa ρ).bind fun x => (fb ρ).bind fun y => op x y
/-- the answer is flat -/
structure AO (K : Fg) (r : R2) (op : PyData → PyData → R PyData) : Prop where
  sound : ∀ (x y d : PyData) (v u : V) (H : Hp) (Q : VK), Rp K H v x → Rp K H u y → op x y = .ok d → (∀ w, (∀ F, Rp K F w d) → Q w H) → r v u H Q
  noexc : ∀ x y n, op x y ≠ .exc n
/-- the answer is new, or a part -/
structure XO (K : Fg) (r : R2) (op : PyData → PyData → R PyData) : Prop where
  sound : ∀ (x y d : PyData) (v u : V) (F H : Hp) (Q : VK), Same F H → Rs K F H v x → Rs K F H u y → op x y = .ok d → (∀ F' H' w, Ext F H F' H' → Rp K F' w d → Q w H') → r v u H Q
  noexc : ∀ x y n, op x y ≠ .exc n
/-- the answer is a part of the left one -/
structure CO (K : Fg) (r : R2) (op : PyData → PyData → R PyData) : Prop where
  sound : ∀ (x y d : PyData) (v u : V) (F H : Hp) (Q : VK), Same F H → Rs K F H v x → Rp K H u y → op x y = .ok d → (∀ w, Rp K F w d → Q w H) → r v u H Q
  noexc : ∀ x y n, op x y ≠ .exc n
section
variable {X : Cx} {c : Cc} {e a b : Expr} {es : List Expr} {f fa fb : En → R PyData} {pos : Pos} {r : R2} {op : PyData → PyData → R PyData}
theorem two_P {σ : St} {H F : Hp} {ρ : En} {β : Type} {k : PyData → PyData → R β} {G : β → Hp → Hp → Prop} (rl : Rl X.K c F H ρ σ) (q : Po c σ F H ((fa ρ).bind fun x => (fb ρ).bind fun y => k x y) G) {Z : V → V → Hp → Prop}
    (fin : ∀ x y v u F2 H2, Ext F H F2 H2 → Rl X.K c F2 H2 ρ σ → Rp X.K H2 v x → Rp X.K H2 u y → Po c σ F2 H2 (k x y) G → Z v u H2) : tP X.K c fa σ H fun v H1 => tP X.K c fb σ H1 fun u H2 => Z v u H2 :=
  ⟨F, ρ, rl, (Po.bind q).mono fun x F1 H1 _ x1 g v rv => ⟨F1, ρ, rl.ext x1, (Po.bind g).mono fun y F2 H2 _ x2 g2 u ru => fin x y v u F2 H2 (x1.trans x2) ((rl.ext x1).ext x2) (rv.same x2.h) ru g2⟩⟩
theorem two_S {σ : St} {H F : Hp} {ρ : En} {β : Type} {k : PyData → PyData → R β} {G : β → Hp → Hp → Prop} (rl : Rl X.K c F H ρ σ) (q : Po c σ F H ((fa ρ).bind fun x => (fb ρ).bind fun y => k x y) G) {Z : V → V → Hp → Prop}
    (fin : ∀ x y v u F2 H2, Ext F H F2 H2 → Rl X.K c F2 H2 ρ σ → Rs X.K F2 H2 v x → Rs X.K F2 H2 u y → Po c σ F2 H2 (k x y) G → Z v u H2) : tS X.K c fa σ H fun v H1 => tS X.K c fb σ H1 fun u H2 => Z v u H2 :=
  ⟨F, ρ, rl, (Po.bind q).mono fun x F1 H1 _ x1 g v rv => ⟨F1, ρ, rl.ext x1, (Po.bind g).mono fun y F2 H2 _ x2 g2 u ru => fin x y v u F2 H2 (x1.trans x2) ((rl.ext x1).ext x2) (rv.ext x2) ru g2⟩⟩
theorem two_SP {σ : St} {H F : Hp} {ρ : En} {β : Type} {k : PyData → PyData → R β} {G : β → Hp → Hp → Prop} (rl : Rl X.K c F H ρ σ) (q : Po c σ F H ((fa ρ).bind fun x => (fb ρ).bind fun y => k x y) G) {Z : V → V → Hp → Prop}
    (fin : ∀ x y v u F2 H2, Ext F H F2 H2 → Rl X.K c F2 H2 ρ σ → Rs X.K F2 H2 v x → Rp X.K H2 u y → Po c σ F2 H2 (k x y) G → Z v u H2) : tS X.K c fa σ H fun v H1 => tP X.K c fb σ H1 fun u H2 => Z v u H2 :=
  ⟨F, ρ, rl, (Po.bind q).mono fun x F1 H1 _ x1 g v rv => ⟨F1, ρ, rl.ext x1, (Po.bind g).mono fun y F2 H2 _ x2 g2 u ru => fin x y v u F2 H2 (x1.trans x2) ((rl.ext x1).ext x2) (rv.ext x2) ru g2⟩⟩
theorem red_A (A : AO X.K r op) : ∀ σ H Q, tE X.K c (xB op fa fb) σ H Q → tOp r (tP X.K c fa) (tP X.K c fb) σ H Q := fun σ H Q ⟨F, ρ, rl, q⟩ => by
  refine two_P rl q fun x y v u F2 H2 x2 r2 rv ru g => ?_
  cases ho : op x y with
  | ok d => rw [ho] at g; exact A.sound x y d v u H2 Q rv ru ho fun w hw => g F2 H2 (Ext.refl r2.s) w (hw F2)
  | exc n => exact (A.noexc _ _ _ ho).elim
  | bad => rw [ho] at g; exact g.elim
theorem red_X (A : XO X.K r op) : ∀ σ H Q, tE X.K c (xB op fa fb) σ H Q → tOp r (tS X.K c fa) (tS X.K c fb) σ H Q := fun σ H Q ⟨F, ρ, rl, q⟩ => by
  refine two_S rl q fun x y v u F2 H2 x2 r2 rv ru g => ?_
  cases ho : op x y with
  | ok d => rw [ho] at g; exact A.sound x y d v u F2 H2 Q r2.s rv ru ho fun F' H' w xe hw => g F' H' xe w hw
  | exc n => exact (A.noexc _ _ _ ho).elim
  | bad => rw [ho] at g; exact g.elim
theorem red_C (A : CO X.K r op) : ∀ σ H Q, tE X.K c (xB op fa fb) σ H Q → tOp r (tS X.K c fa) (tP X.K c fb) σ H Q := fun σ H Q ⟨F, ρ, rl, q⟩ => by
  refine two_SP rl q fun x y v u F2 H2 x2 r2 rv ru g => ?_
  cases ho : op x y with
  | ok d => rw [ho] at g; exact A.sound x y d v u F2 H2 Q r2.s rv ru ho fun w hw => g F2 H2 (Ext.refl r2.s) w hw
  | exc n => exact (A.noexc _ _ _ ho).elim
  | bad => rw [ho] at g; exact g.elim
end

/-! ### the operators by data -/
@[simp] def addD : PyData → PyData → R PyData
  | .int i, .int j => .ok (.int (i + j))
  | .str x, .str y => if x.length + y.length ≤ sizeLine then .ok (.str (x ++ y)) else .bad
  | .list xs, .list ys => if xs.length + ys.length ≤ sizeLine then .ok (.list (xs ++ ys)) else .bad
  | .tuple xs, .tuple ys => if xs = [] ∨ sizeLine < xs.length + ys.length then .bad else .ok (.tuple (xs ++ ys))
  | _, _ => .bad
@[simp] def subD : PyData → PyData → R PyData
  | .int i, .int j => .ok (.int (i - j))
  | _, _ => .bad
def mulOk (i j : Int) : Prop := ((-(2 ^ 64) < i ∧ i < 2 ^ 64) ∨ (-(2 ^ 64) < j ∧ j < 2 ^ 64)) ∨ (i.natAbs < 2 ^ 4000 ∧ j.natAbs < 2 ^ 4000)
def smI : Int → Bool
  | .ofNat n => Nat.blt n 18446744073709551616
  | .negSucc n => Nat.blt n 18446744073709551615
theorem smI_iff (i : Int) : smI i = true ↔ (-(2 ^ 64) < i ∧ i < 2 ^ 64) := by
  cases i with
  | ofNat n => simp only [smI, Nat.blt_eq, Int.ofNat_eq_natCast]; constructor <;> intro h <;> omega
  | negSucc n => simp only [smI, Nat.blt_eq, Int.negSucc_eq]; constructor <;> intro h <;> omega
def mulB (i j : Int) : Bool := (smI i || smI j) || (Nat.blt i.natAbs (2 ^ 4000) && Nat.blt j.natAbs (2 ^ 4000))
theorem mulB_iff (i j : Int) : mulB i j = true ↔ mulOk i j := by
  unfold mulB mulOk
  rw [Bool.or_eq_true, Bool.or_eq_true, Bool.and_eq_true, smI_iff, smI_iff, Nat.blt_eq, Nat.blt_eq]
instance (i j : Int) : Decidable (mulOk i j) := decidable_of_iff _ (mulB_iff i j)
def mulD : PyData → PyData → R PyData
  | .int i, .int j => if mulOk i j then .ok (.int (i * j)) else .bad
  | _, _ => .bad
def divOk (j : Int) : Prop := 0 < j ∧ j.natAbs < 2 ^ 4000
instance (j : Int) : Decidable (divOk j) := by unfold divOk; infer_instance
def fdivD : PyData → PyData → R PyData
  | .int i, .int j => if divOk j then .ok (.int (i / j)) else .bad
  | _, _ => .bad
def modD : PyData → PyData → R PyData
  | .int i, .int j => if 0 < j then .ok (.int (i % j)) else .bad
  | _, _ => .bad
def powD : PyData → PyData → R PyData
  | .int i, .int j => if 0 ≤ j ∧ j ≤ 1000000 ∧ i.natAbs < 2 ^ 64 then .ok (.int (i ^ j.toNat)) else .bad
  | _, _ => .bad
@[simp] def ltD : PyData → PyData → R PyData
  | .int i, .int j => .ok (.bool (decide (i < j)))
  | _, _ => .bad
@[simp] def leD : PyData → PyData → R PyData
  | .int i, .int j => .ok (.bool (decide (i ≤ j)))
  | _, _ => .bad
@[simp] def gtD : PyData → PyData → R PyData
  | .int i, .int j => .ok (.bool (decide (j < i)))
  | _, _ => .bad
@[simp] def geD : PyData → PyData → R PyData
  | .int i, .int j => .ok (.bool (decide (j ≤ i)))
  | _, _ => .bad
/-- == by data -/
def eqB (x y : PyData) : R Bool := match x, y with
  | .int i, .int j => .ok (decide (i = j))
  | .str a, .str b => .ok (decide (a = b))
  | x, y => if SeqAt.shaped x = true ∧ SeqAt.shaped y = true then .ok (PyData.eqv x y) else .bad
@[simp] def eqD (x y : PyData) : R PyData := (eqB x y).bind fun b => .ok (.bool b)
@[simp] def neD (x y : PyData) : R PyData := (eqB x y).bind fun b => .ok (.bool (!b))
@[simp] def isND (x y : PyData) : R PyData := match y with
  | .none => .ok (.bool (match x with | .none => true | _ => false))
  | _ => .bad
@[simp] def isnND (x y : PyData) : R PyData := match y with
  | .none => .ok (.bool (match x with | .none => false | _ => true))
  | _ => .bad

mutual
theorem nodict_of : ∀ {d : PyData}, d.canLay0 = true → nodict d = true
  | .none, _ => rfl
  | .bool _, _ => rfl
  | .int _, _ => rfl
  | .str _, _ => rfl
  | .list ds, h => by
    unfold nodict
    exact nodicts_of (by simpa [PyData.canLay0] using h)
  | .tuple ds, h => by
    unfold nodict
    exact nodicts_of (by simpa [PyData.canLay0] using h)
  | .dict _, h => by simp [PyData.canLay0] at h
theorem nodicts_of : ∀ {ds : List PyData}, PyData.canLayAll0 ds = true → nodicts ds = true
  | [], _ => rfl
  | d :: ds, h => by
    simp only [PyData.canLayAll0, Bool.and_eq_true] at h
    unfold nodicts
    rw [nodict_of h.1, nodicts_of h.2]
    rfl
end
theorem Rp.dps {K : Fg} {H : Hp} {v : V} {d : PyData} (r : Rp K H v d) (h : SeqAt.shaped d = true) : Dp K H v d := r.dp (nodict_of (SeqAt.canLay_of_shaped h))
theorem noneq {K : Fg} {H : Hp} {v : V} {d : PyData} (r : Rp K H v d) : decide (v = V.non) = (match d with | .none => true | _ => false) := by
  cases r with
  | non => rfl
  | _ => exact decide_eq_false (fun e => nomatch e)

theorem ao_i {K : Fg} {r : R2} {op : PyData → PyData → R PyData} (g : Int → Int → PyData) (P : Int → Int → Prop) [∀ i j, Decidable (P i j)] (gV : Int → Int → V) (hg : ∀ i j F, Rp K F (gV i j) (g i j))
    (e1 : ∀ i j, op (.int i) (.int j) = if P i j then .ok (g i j) else .bad) (e2 : ∀ x y, (∀ i j, ¬ (x = .int i ∧ y = .int j)) → op x y = .bad)
    (hr : ∀ i j H Q, P i j → Q (gV i j) H → r (.int i) (.int j) H Q) : AO K r op where
  sound := by
    intro x y d v u H Q rv ru ho q
    by_cases h : ∃ i j, x = .int i ∧ y = .int j
    · obtain ⟨i, j, rfl, rfl⟩ := h
      rw [e1] at ho
      by_cases p : P i j
      · rw [if_pos p] at ho
        cases ho
        cases rv; cases ru
        exact hr i j H Q p (q _ (hg i j))
      · rw [if_neg p] at ho; cases ho
    · rw [e2 x y (fun i j z => h ⟨i, j, z⟩)] at ho
      cases ho
  noexc := by
    intro x y n ho
    by_cases h : ∃ i j, x = .int i ∧ y = .int j
    · obtain ⟨i, j, rfl, rfl⟩ := h
      rw [e1] at ho
      split at ho <;> cases ho
    · rw [e2 x y (fun i j z => h ⟨i, j, z⟩)] at ho
      cases ho
theorem int2 {op : PyData → PyData → R PyData} (h : ∀ x y, (∀ i j, ¬ (x = .int i ∧ y = .int j)) → op x y = .bad) : ∀ x y, (∀ i j, ¬ (x = .int i ∧ y = .int j)) → op x y = .bad := h
section
variable {K : Fg} {X : Cx}
theorem ao_sub : AO K (rI0 fun i j => .int (i - j)) subD := ao_i (fun i j => .int (i - j)) (fun _ _ => True) (fun i j => .int (i - j)) (fun _ _ _ => .int _) (fun _ _ => by simp [subD])
  (fun x y h => by cases x <;> cases y <;> first | rfl | exact absurd ⟨rfl, rfl⟩ (h _ _)) fun i j H Q _ q => ⟨i, j, rfl, rfl, q⟩
def rMulX : R2 := fun x y H Q => rI CMul (fun i j => .int (i * j)) x y H Q ∨ rI CMulW (fun i j => .int (i * j)) x y H Q
theorem op_mulX : OpR X (binaryOp .Mult) rMulX := op_mul.or op_mulW
theorem ao_mul : AO K rMulX mulD := ao_i (fun i j => .int (i * j)) mulOk (fun i j => .int (i * j)) (fun _ _ _ => .int _) (fun _ _ => rfl)
  (fun x y h => by cases x <;> cases y <;> first | rfl | exact absurd ⟨rfl, rfl⟩ (h _ _)) fun i j H Q p q => by
    rcases p with p | p
    · exact Or.inl ⟨i, j, rfl, rfl, p, q⟩
    · exact Or.inr ⟨i, j, rfl, rfl, wide_mul p.1 p.2 (by decide) (by decide) (by decide), q⟩
theorem ao_fdiv : AO K (rI CDivW fun i j => .int (i / j)) fdivD := ao_i (fun i j => .int (i / j)) (fun _ j => divOk j) (fun i j => .int (i / j)) (fun _ _ _ => .int _) (fun _ _ => rfl)
  (fun x y h => by cases x <;> cases y <;> first | rfl | exact absurd ⟨rfl, rfl⟩ (h _ _)) fun i j H Q p q => ⟨i, j, rfl, rfl, wide_div p.1 p.2 (by decide) (by decide), q⟩
theorem ao_mod : AO K (rI (fun _ j => 0 < j) fun i j => .int (i % j)) modD := ao_i (fun i j => .int (i % j)) (fun _ j => 0 < j) (fun i j => .int (i % j)) (fun _ _ _ => .int _) (fun _ _ => rfl)
  (fun x y h => by cases x <;> cases y <;> first | rfl | exact absurd ⟨rfl, rfl⟩ (h _ _)) fun i j H Q p q => ⟨i, j, rfl, rfl, p, q⟩
theorem ao_pow : AO K (rI CPow fun i j => .int (i ^ j.toNat)) powD := ao_i (fun i j => .int (i ^ j.toNat)) (fun i j => 0 ≤ j ∧ j ≤ 1000000 ∧ i.natAbs < 2 ^ 64) (fun i j => .int (i ^ j.toNat)) (fun _ _ _ => .int _) (fun _ _ => rfl)
  (fun x y h => by cases x <;> cases y <;> first | rfl | exact absurd ⟨rfl, rfl⟩ (h _ _)) fun i j H Q p q => ⟨i, j, rfl, rfl, p, q⟩
theorem ao_lt : AO K (rI0 fun i j => .bl (decide (i < j))) ltD := ao_i (fun i j => .bool (decide (i < j))) (fun _ _ => True) (fun i j => .bl (decide (i < j))) (fun _ _ _ => .bl _) (fun _ _ => by simp [ltD])
  (fun x y h => by cases x <;> cases y <;> first | rfl | exact absurd ⟨rfl, rfl⟩ (h _ _)) fun i j H Q _ q => ⟨i, j, rfl, rfl, q⟩
theorem ao_le : AO K (rI0 fun i j => .bl (decide (i ≤ j))) leD := ao_i (fun i j => .bool (decide (i ≤ j))) (fun _ _ => True) (fun i j => .bl (decide (i ≤ j))) (fun _ _ _ => .bl _) (fun _ _ => by simp [leD])
  (fun x y h => by cases x <;> cases y <;> first | rfl | exact absurd ⟨rfl, rfl⟩ (h _ _)) fun i j H Q _ q => ⟨i, j, rfl, rfl, q⟩
theorem ao_gt : AO K (rI0 fun i j => .bl (decide (j < i))) gtD := ao_i (fun i j => .bool (decide (j < i))) (fun _ _ => True) (fun i j => .bl (decide (j < i))) (fun _ _ _ => .bl _) (fun _ _ => by simp [gtD])
  (fun x y h => by cases x <;> cases y <;> first | rfl | exact absurd ⟨rfl, rfl⟩ (h _ _)) fun i j H Q _ q => ⟨i, j, rfl, rfl, q⟩
theorem ao_ge : AO K (rI0 fun i j => .bl (decide (j ≤ i))) geD := ao_i (fun i j => .bool (decide (j ≤ i))) (fun _ _ => True) (fun i j => .bl (decide (j ≤ i))) (fun _ _ _ => .bl _) (fun _ _ => by simp [geD])
  (fun x y h => by cases x <;> cases y <;> first | rfl | exact absurd ⟨rfl, rfl⟩ (h _ _)) fun i j H Q _ q => ⟨i, j, rfl, rfl, q⟩
end
end DL
set_option Elab.async false
set_option linter.all false
set_option maxRecDepth 100000
set_option maxHeartbeats 1000000
/-! More operators by data: +, ==, is, in, subscripts. -/
namespace DL
open PySem PySem.Spec L2
section
variable {K : Fg} {X : Cx}
/-- list + list, both read only -/
def rCatL (K : Fg) : R2 := fun x y H Q => ∃ p q vs ws, x = V.ref p ∧ y = V.ref q ∧ SqL K H p vs ∧ SqL K H q ws ∧ vs.length + ws.length ≤ sizeLine ∧ ∀ n, H n = none → Q (V.ref n) (upd H n (HO.lst (vs ++ ws)))
theorem op_catL : OpR X (binaryOp .Add) (rCatL X.K) := by
  intro pins s σ H x y v u Q I rx ry ⟨p, q, vs, ws, ex, ey, hp, hq, hz, g⟩
  subst ex ey
  cases rx
  cases ry
  obtain ⟨i1, r1, ⟨o1, n1, e1, c1, _, d1⟩, _⟩ := I.list hp
  obtain ⟨i2, r2, ⟨o2, n2, e2, c2, _, d2⟩, _⟩ := I.list hq
  obtain ⟨k1, dd1, dt1, sl1⟩ := o1
  obtain ⟨k2, dd2, dt2, sl2⟩ := o2
  simp only at c1 c2 d1 d2
  subst c1 c2 d1 d2
  have l1 := r1.length
  have l2 := r2.length
  refine PySem.concat_meets ⟨_, e1, rfl⟩ ⟨_, e2, rfl⟩ PySem.noFill_list_add PySem.seq_list_add PySem.F.slot_list_add PySem.F.entry_list_add (PySem.F.args_list_add_2 _ _)
    (PyProof.Rows.list_addW p q i1.toArray i2.toArray n1 n2 dd1 dd2 sl1 sl2 (by simp only [List.size_toArray]; omega)) ⟨e1, e2, ?_⟩
  rw [show i1.toArray ++ i2.toArray = (i1 ++ i2).toArray by simp]
  exact ⟨.ref _, _, I.lnew (t' := s.toks) (r1.append r2) (by simp only [List.length_append]; omega), rfl, g _ I.fresh⟩
def rAddX (K : Fg) : R2 := fun x y H Q => (rI0 (fun i j => .int (i + j)) x y H Q ∨ (∃ i j, x = .str i ∧ y = .str j ∧ i.length + j.length ≤ sizeLine ∧ Q (.str (i ++ j)) H)) ∨ (rCatL K x y H Q ∨ rCatT K x y H Q)
theorem op_addX : OpR X (binaryOp .Add) (rAddX X.K) := (op_add.or op_add_str).or (op_catL.or op_catT)
theorem xo_add : XO K (rAddX K) addD where
  noexc := by
    intro x y n h
    unfold addD at h
    split at h <;> (try split at h) <;> cases h
  sound := by
    intro x y d v u F H Q s rv ru h q
    unfold addD at h
    split at h
    · cases h
      exact Or.inl (Or.inl ⟨_, _, rv.int, ru.int, q F H _ (Ext.refl s) (.int _)⟩)
    · split at h
      · rename_i hz
        cases h
        exact Or.inl (Or.inr ⟨_, _, rv.str, ru.str, hz, q F H _ (Ext.refl s) (.str _)⟩)
      · cases h
    · split at h
      · rename_i xs ys hz
        cases h
        obtain ⟨a1, w1, rfl, s1, r1⟩ := rv.list s
        obtain ⟨a2, w2, rfl, s2, r2⟩ := ru.list s
        refine Or.inr (Or.inl ⟨_, _, _, _, rfl, rfl, s1, s2, by rw [r1.len, r2.len]; exact hz, fun n hn => ?_⟩)
        exact q _ _ _ (Ext.new s hn) (.lst (.of upd_same) ((r1.app r2).same (Ext.new s hn).f))
      · cases h
    · split at h
      · cases h
      · rename_i xs ys hz
        cases h
        have hz1 : xs ≠ [] := fun z => hz (Or.inl z)
        have hz2 : xs.length + ys.length ≤ sizeLine := Nat.le_of_not_lt fun z => hz (Or.inr z)
        obtain ⟨a1, w1, e1, s1, r1⟩ := rv.tuple s
        obtain ⟨a2, w2, e2, s2, r2⟩ := ru.tuple s
        refine Or.inr (Or.inr ⟨_, _, _, _, e1, e2, s1, s2, fun z => ?_, by rw [r1.len, r2.len]; exact hz2, fun z => ?_, fun _ n hn => ?_⟩)
        · subst z; cases r1; exact hz1 rfl
        · subst z; cases r2
          rw [List.append_nil] at q
          exact q F H _ (Ext.refl s) (e1 ▸ rv.tupleF)
        · exact q _ _ _ (Ext.new s hn) (.tup (.of upd_same) ((r1.app r2).same (Ext.new s hn).f))
    · cases h
def rEqX (K : Fg) : R2 := fun x y H Q => rEq x y H Q ∨ rEqD K x y H Q
def rNeX (K : Fg) : R2 := fun x y H Q => rNe x y H Q ∨ rNeD K x y H Q
theorem op_eqX {k : Nat} (hr : Room k X.A) : OpR X (compareOp .Eq) (rEqX X.K) := op_eq.or (op_eqD hr.units)
theorem op_neX {k : Nat} (hr : Room k X.A) : OpR X (compareOp .NotEq) (rNeX X.K) := op_ne.or (op_neD hr.units)
theorem eqB_noexc (x y : PyData) (n : Str) : eqB x y ≠ .exc n := by
  intro h
  unfold eqB at h
  split at h
  · cases h
  · cases h
  · split at h <;> cases h
theorem eq_case {x y : PyData} {b : Bool} {v u : V} {H : Hp} (rv : Rp K H v x) (ru : Rp K H u y) (h : eqB x y = .ok b) :
    (scal v u = true ∧ b = decide (v = u)) ∨ ∃ d e, Dp K H v d ∧ Dp K H u e ∧ SeqAt.shaped d = true ∧ SeqAt.shaped e = true ∧ b = PyData.eqv d e := by
  unfold eqB at h
  split at h
  · cases h; cases rv; cases ru
    exact Or.inl ⟨rfl, by rw [dec_int, Bool.beq_eq_decide_eq]⟩
  · cases h; cases rv; cases ru
    exact Or.inl ⟨rfl, by rw [dec_str, Bool.beq_eq_decide_eq]⟩
  · split at h
    · rename_i hs
      cases h
      exact Or.inr ⟨_, _, rv.dps hs.1, ru.dps hs.2, hs.1, hs.2, rfl⟩
    · cases h
theorem ao_eq : AO K (rEqX K) eqD where
  noexc := fun x y n h => by
    unfold eqD at h
    cases e : eqB x y with
    | ok b => rw [e] at h; cases h
    | exc m => exact eqB_noexc _ _ _ e
    | bad => rw [e] at h; cases h
  sound := fun x y d v u H Q rv ru h q => by
    unfold eqD at h
    cases e : eqB x y with
    | ok b =>
      rw [e] at h
      cases h
      rcases eq_case rv ru e with ⟨h1, h2⟩ | ⟨d1, d2, h1, h2, h3, h4, h5⟩
      · subst h2; exact Or.inl ⟨h1, q _ fun F => .bl _⟩
      · subst h5; exact Or.inr ⟨d1, d2, h1, h2, h3, h4, q _ fun F => .bl _⟩
    | exc m => rw [e] at h; cases h
    | bad => rw [e] at h; cases h
theorem ao_ne : AO K (rNeX K) neD where
  noexc := fun x y n h => by
    unfold neD at h
    cases e : eqB x y with
    | ok b => rw [e] at h; cases h
    | exc m => exact eqB_noexc _ _ _ e
    | bad => rw [e] at h; cases h
  sound := fun x y d v u H Q rv ru h q => by
    unfold neD at h
    cases e : eqB x y with
    | ok b =>
      rw [e] at h
      cases h
      rcases eq_case rv ru e with ⟨h1, h2⟩ | ⟨d1, d2, h1, h2, h3, h4, h5⟩
      · subst h2; exact Or.inl ⟨h1, q _ fun F => .bl _⟩
      · subst h5; exact Or.inr ⟨d1, d2, h1, h2, h3, h4, q _ fun F => .bl _⟩
    | exc m => rw [e] at h; cases h
    | bad => rw [e] at h; cases h
def rIsN : R2 := fun x y H Q => y = .non ∧ Q (.bl (decide (x = .non))) H
def rNotN : R2 := fun x y H Q => y = .non ∧ Q (.bl (!decide (x = .non))) H
theorem ao_is : AO K rIsN isND where
  noexc := fun x y n h => by unfold isND at h; split at h <;> cases h
  sound := fun x y d v u H Q rv ru h q => by
    unfold isND at h
    split at h
    · cases h; cases ru
      exact ⟨rfl, q _ fun F => by rw [noneq rv]; cases x <;> exact .bl _⟩
    · cases h
theorem ao_isn : AO K rNotN isnND where
  noexc := fun x y n h => by unfold isnND at h; split at h <;> cases h
  sound := fun x y d v u H Q rv ru h q => by
    unfold isnND at h
    split at h
    · cases h; cases ru
      exact ⟨rfl, q _ fun F => by rw [noneq rv]; cases x <;> exact .bl _⟩
    · cases h

/-! ### in -/
def flatL : List PyData → Bool := fun ds => ds.all flat
theorem Rp.flatV {H : Hp} {v : V} {d : PyData} (r : Rp K H v d) (h : DL.flat d = true) : L2.flatV v = true := by
  cases r with
  | non => rfl
  | bl b => rfl
  | int i => rfl
  | str x => rfl
  | lst _ _ => cases h
  | tup _ _ => cases h
  | dct _ _ => cases h
theorem RpA.flatV {H : Hp} : ∀ {vs : List V} {ds : List PyData}, RpA K H vs ds → flatL ds = true → vs.all L2.flatV = true
  | _, _, .nil, _ => rfl
  | _, _, .cons r t, h => by
    simp only [flatL, List.all_cons, Bool.and_eq_true] at h
    rw [List.all_cons, Rp.flatV r h.1, RpA.flatV t (show flatL _ = true from h.2)]
    rfl
theorem eqV_eqv {H : Hp} {v u : V} {d e : PyData} (r : Rp K H v d) (q : Rp K H u e) (h : flat d = true) (h2 : flat e = true) : eqV v u = PyData.eqv d e := by
  cases r with
  | lst _ _ => cases h
  | tup _ _ => cases h
  | dct _ _ => cases h
  | non => cases q <;> first | rfl | cases h2
  | bl b => cases q <;> first | rfl | cases h2
  | int i => cases q <;> first | rfl | cases h2
  | str x => cases q <;> first | rfl | cases h2
theorem inV_any {H : Hp} {u : V} {e : PyData} (q : Rp K H u e) (h2 : flat e = true) : ∀ {vs : List V} {ds : List PyData}, RpA K H vs ds → flatL ds = true → inV u vs = ds.any fun z => PyData.eqv z e
  | _, _, .nil, _ => rfl
  | _, _, .cons (v := v) (d := d) r t, h => by
    simp only [flatL, List.all_cons, Bool.and_eq_true] at h
    have ih := inV_any q h2 t h.2
    unfold inV at ih ⊢
    rw [List.any_cons, List.any_cons, eqV_eqv r q h.1 h2, ih]
/-- a dict's value at a key -/
def dval (es : List (PyData × PyData)) (k : PyData) : Option PyData := (es.find? fun p => PyData.eqv p.1 k).map (·.2)
def isKey : PyData → Bool
  | .int _ => true
  | .str _ => true
  | _ => false
theorem key_of {H : Hp} {u : V} {e : PyData} (q : Rp K H u e) (h : isKey e = true) : ∃ k : Key, u = kV k ∧ e = kD k := by
  cases q with
  | int i => exact ⟨.inl i, rfl, rfl⟩
  | str x => exact ⟨.inr x, rfl, rfl⟩
  | non => cases h
  | bl b => cases h
  | lst _ _ => cases h
  | tup _ _ => cases h
  | dct _ _ => cases h
theorem kD_eqv (a b : Key) : PyData.eqv (kD a) (kD b) = decide (a = b) := by
  cases a with
  | inl i =>
    cases b with
    | inl j => show (i == j) = _; rw [key_ll]
    | inr y => show false = _; rw [key_lr]
  | inr x =>
    cases b with
    | inl j => show false = _; rw [key_rl]
    | inr y => show (x == y) = _; rw [key_rr, Bool.beq_eq_decide_eq]
theorem RpK.val {H : Hp} (k : Key) : ∀ {ks : List (Key × V)} {es : List (PyData × PyData)}, RpK K H ks es →
    (∃ v d, valV ks k = some v ∧ dval es (kD k) = some d ∧ Rp K H v d) ∨ (valV ks k = none ∧ dval es (kD k) = none)
  | _, _, .nil => Or.inr ⟨rfl, rfl⟩
  | _, _, .cons (k := j) (v := v) (d := d) (ks := ks) (es := es) r t => by
    by_cases h : j = k
    · subst h
      exact Or.inl ⟨v, d, valV_pos rfl, by simp [dval, List.find?_cons, kD_eqv], r⟩
    · have e1 : valV ((j, v) :: ks) k = valV ks k := valV_neg h
      have e2 : dval ((kD j, d) :: es) (kD k) = dval es (kD k) := by simp [dval, List.find?_cons, kD_eqv, h]
      rw [e1, e2]
      exact RpK.val k t
def inB (x y : PyData) : R Bool := match y with
  | .str z => (match x with
    | .str a => (match a.cps.toList with
      | [c] => .ok (decide (c ∈ z.cps.toList))
      | _ => .bad)
    | _ => .bad)
  | .list ds => if SeqAt.shaped x = true ∧ SeqAt.shaped (.list ds) = true then .ok (ds.any fun z => PyData.eqv z x) else .bad
  | .tuple ds => if flat x = true ∧ flatL ds = true then .ok (ds.any fun z => PyData.eqv z x) else .bad
  | .dict es => if isKey x = true then .ok (dval es x).isSome else .bad
  | _ => .bad
@[simp] def inD (x y : PyData) : R PyData := (inB x y).bind fun b => .ok (.bool b)
@[simp] def ninD (x y : PyData) : R PyData := (inB x y).bind fun b => .ok (.bool (!b))
theorem inB_noexc (x y : PyData) (n : Str) : inB x y ≠ .exc n := by
  intro h
  unfold inB at h
  split at h
  · split at h
    · split at h <;> cases h
    · cases h
  · split at h <;> cases h
  · split at h <;> cases h
  · split at h <;> cases h
  · cases h
def rDIn : R2 := fun y x H Q => ∃ a o, x = V.ref a ∧ DGet H a y o ∧ Q (.bl o.isSome) H
def rDNotIn : R2 := fun y x H Q => ∃ a o, x = V.ref a ∧ DGet H a y o ∧ Q (.bl (!o.isSome)) H
theorem op_din {k : Nat} (hr : Room k X.A) : OpR X (compareOp .In) rDIn := by
  intro pins s σ H x y v u Q I rx ry ⟨a, o, e, g, q⟩
  subst e
  cases ry
  exact d_in (hu_of hr) I g rx fun s3 I3 => ⟨.bl _, H, I3, rfl, q⟩
theorem op_dnin {k : Nat} (hr : Room k X.A) : OpR X (compareOp .NotIn) rDNotIn := by
  intro pins s σ H x y v u Q I rx ry ⟨a, o, e, g, q⟩
  subst e
  cases ry
  exact d_notIn (hu_of hr) I g rx fun s3 I3 => ⟨.bl _, H, I3, rfl, q⟩
def rSgIn : R2 := fun x y H Q => ∃ (c : Nat) (z : Str), x = V.str ⟨#[c]⟩ ∧ y = V.str z ∧ Q (.bl (decide (c ∈ z.cps.toList))) H
def rSgNin : R2 := fun x y H Q => ∃ (c : Nat) (z : Str), x = V.str ⟨#[c]⟩ ∧ y = V.str z ∧ Q (.bl (!decide (c ∈ z.cps.toList))) H
def rInX (K : Fg) : R2 := fun x y H Q => (rSgIn x y H Q ∨ rInD K x y H Q) ∨ (rIn K false x y H Q ∨ rDIn x y H Q)
def rNinX (K : Fg) : R2 := fun x y H Q => (rSgNin x y H Q ∨ rNotInD K x y H Q) ∨ (rIn K true x y H Q ∨ rDNotIn x y H Q)
theorem Room.u65 {k : Nat} {A : Around} (hr : Room k A) : A.units + 65 < cLine := by
  have := hr.un
  omega
theorem op_inX {k : Nat} (hr : Room k X.A) : OpR X (compareOp .In) (rInX X.K) := (op_in_sign.or (op_inD (Room.u65 hr))).or (op_in_seq.or (op_din hr))
theorem op_ninX {k : Nat} (hr : Room k X.A) : OpR X (compareOp .NotIn) (rNinX X.K) := (op_notIn_sign.or (op_notInD (Room.u65 hr))).or (op_notIn_seq.or (op_dnin hr))
theorem str1 {a : Str} {c : Nat} (h : a.cps.toList = [c]) : a = ⟨#[c]⟩ := Str.ext' (Array.toList_inj.mp h)
theorem in_case {x y : PyData} {b : Bool} {v u : V} {H : Hp} (rv : Rp K H v x) (ru : Rp K H u y) (h : inB x y = .ok b) :
    (∃ c z, v = V.str ⟨#[c]⟩ ∧ u = V.str z ∧ b = decide (c ∈ z.cps.toList)) ∨ (∃ d ds, Dp K H v d ∧ Dp K H u (.list ds) ∧ SeqAt.shaped d = true ∧ SeqAt.shaped (.list ds) = true ∧ b = ds.any fun z => PyData.eqv z d) ∨
    (∃ p xs, u = .ref p ∧ (SqL K H p xs ∨ SqT K H p xs) ∧ flatV v = true ∧ xs.all flatV = true ∧ b = inV v xs) ∨ (∃ a o, u = V.ref a ∧ DGet H a v o ∧ b = o.isSome) := by
  unfold inB at h
  split at h
  · rename_i z
    split at h
    · rename_i a
      split at h
      · rename_i c hc
        cases h; cases rv; cases ru
        exact Or.inl ⟨c, z, by rw [str1 hc], rfl, rfl⟩
      · cases h
    · cases h
  · split at h
    · rename_i hs
      cases h
      exact Or.inr (Or.inl ⟨_, _, rv.dps hs.1, ru.dps hs.2, hs.1, hs.2, rfl⟩)
    · cases h
  · split at h
    · rename_i hs
      cases h
      cases ru with
      | tup s1 r1 => exact Or.inr (Or.inr (Or.inl ⟨_, _, rfl, Or.inr s1, rv.flatV hs.1, r1.flatV hs.2, (inV_any rv hs.1 r1 hs.2).symm⟩))
    · cases h
  · split at h
    · rename_i hs
      cases h
      cases ru with
      | dct s1 r1 =>
        obtain ⟨k, rfl, rfl⟩ := key_of rv hs
        refine Or.inr (Or.inr (Or.inr ⟨_, _, rfl, DGet.k s1, ?_⟩))
        rcases RpK.val k r1 with ⟨v, d, h1, h2, _⟩ | ⟨h1, h2⟩
        · rw [h1, h2]; rfl
        · rw [h1, h2]; rfl
    · cases h
  · cases h
theorem ao_in : AO K (rInX K) inD where
  noexc := fun x y n h => by
    unfold inD at h
    cases e : inB x y with
    | ok b => rw [e] at h; cases h
    | exc m => exact inB_noexc _ _ _ e
    | bad => rw [e] at h; cases h
  sound := fun x y d v u H Q rv ru h q => by
    unfold inD at h
    cases e : inB x y with
    | ok b =>
      rw [e] at h
      cases h
      have q' := q (.bl b) fun F => .bl _
      rcases in_case rv ru e with ⟨c, z, h1, h2, h3⟩ | ⟨d, ds, h1, h2, h3, h4, h5⟩ | ⟨p, xs, h1, h2, h3, h4, h5⟩ | ⟨a, o, h1, h2, h3⟩
      · subst h3; exact Or.inl (Or.inl ⟨c, z, h1, h2, q'⟩)
      · subst h5; exact Or.inl (Or.inr ⟨d, ds, h1, h2, h3, h4, q'⟩)
      · subst h5; exact Or.inr (Or.inl ⟨p, xs, h1, h2, h3, h4, q'⟩)
      · subst h3; exact Or.inr (Or.inr ⟨a, o, h1, h2, q'⟩)
    | exc m => rw [e] at h; cases h
    | bad => rw [e] at h; cases h
theorem ao_nin : AO K (rNinX K) ninD where
  noexc := fun x y n h => by
    unfold ninD at h
    cases e : inB x y with
    | ok b => rw [e] at h; cases h
    | exc m => exact inB_noexc _ _ _ e
    | bad => rw [e] at h; cases h
  sound := fun x y d v u H Q rv ru h q => by
    unfold ninD at h
    cases e : inB x y with
    | ok b =>
      rw [e] at h
      cases h
      have q' := q (.bl (!b)) fun F => .bl _
      rcases in_case rv ru e with ⟨c, z, h1, h2, h3⟩ | ⟨d, ds, h1, h2, h3, h4, h5⟩ | ⟨p, xs, h1, h2, h3, h4, h5⟩ | ⟨a, o, h1, h2, h3⟩
      · subst h3; exact Or.inl (Or.inl ⟨c, z, h1, h2, q'⟩)
      · subst h5; exact Or.inl (Or.inr ⟨d, ds, h1, h2, h3, h4, q'⟩)
      · subst h5; exact Or.inr (Or.inl ⟨p, xs, h1, h2, h3, h4, q'⟩)
      · subst h3; exact Or.inr (Or.inr ⟨a, o, h1, h2, q'⟩)
    | exc m => rw [e] at h; cases h
    | bad => rw [e] at h; cases h

/-! ### subscripts -/
def ixD (x y : PyData) : R PyData := match y with
  | .int i => (match x with
    | .list ds => (match atI ds i with | some d => .ok d | none => .bad)
    | .tuple ds => (match atI ds i with | some d => .ok d | none => .bad)
    | .str z => if z.length ≤ sizeLine then (match atI z.cps.toList i with | some c => .ok (.str ⟨#[c]⟩) | none => .bad) else .bad
    | _ => .bad)
  | _ => .bad
theorem RpA.atI {H : Hp} {vs : List V} {ds : List PyData} {i : Int} {d : PyData} (r : RpA K H vs ds) (h : L2.atI ds i = some d) : ∃ v, L2.atI vs i = some v ∧ Rp K H v d := by
  unfold L2.atI at h ⊢
  rw [r.len]
  cases e : ixN ds.length i with
  | none => rw [e] at h; cases h
  | some j =>
    rw [e] at h
    exact r.get h
theorem co_ix : CO K (rIx K) ixD where
  noexc := fun x y n h => by
    unfold ixD at h
    split at h
    · split at h
      · split at h <;> cases h
      · split at h <;> cases h
      · split at h
        · split at h <;> cases h
        · cases h
      · cases h
    · cases h
  sound := fun x y d v u F H Q s rv ru h q => by
    unfold ixD at h
    split at h
    · cases ru
      split at h
      · split at h
        · rename_i hd
          cases h
          obtain ⟨a1, w1, rfl, s1, r1⟩ := rv.list s
          obtain ⟨w, hw, rw'⟩ := r1.atI hd
          exact Or.inl ⟨_, _, _, _, rfl, rfl, s1, hw, q w rw'⟩
        · cases h
      · split at h
        · rename_i hd
          cases h
          obtain ⟨a1, w1, rfl, s1, r1⟩ := rv.tuple s
          obtain ⟨w, hw, rw'⟩ := r1.atI hd
          exact Or.inr (Or.inl ⟨_, _, _, _, rfl, rfl, s1, hw, q w rw'⟩)
        · cases h
      · split at h
        · rename_i hz
          split at h
          · rename_i hd
            cases h
            exact Or.inr (Or.inr ⟨_, _, _, rv.str, rfl, hz, hd, q _ (.str _)⟩)
          · cases h
        · cases h
      · cases h
    · cases h
def dgetD (x y : PyData) : R PyData := match x with
  | .dict es => if isKey y = true then (match dval es y with | some d => .ok d | none => .bad) else .bad
  | _ => .bad
def rDg : R2 := fun x y H Q => ∃ a v, x = V.ref a ∧ DGet H a y (some v) ∧ Q v H
theorem co_dget : CO K rDg dgetD where
  noexc := fun x y n h => by
    unfold dgetD at h
    split at h
    · split at h
      · split at h <;> cases h
      · cases h
    · cases h
  sound := fun x y d v u F H Q s rv ru h q => by
    unfold dgetD at h
    split at h
    · split at h
      · rename_i hk
        split at h
        · rename_i hd
          cases h
          obtain ⟨k, rfl, rfl⟩ := key_of ru hk
          obtain ⟨a1, w1, rfl, s1, r1⟩ := rv.dict s
          rcases RpK.val k r1 with ⟨w, d', h1, h2, h3⟩ | ⟨h1, h2⟩
          · rw [h2] at hd
            cases hd
            exact ⟨_, w, rfl, by rw [← h1]; exact DGet.k s1, q w h3⟩
          · rw [h2] at hd; cases hd
        · cases h
      · cases h
    · cases h
end
section
variable {X : Cx} {c : Cc} {e a b : Expr} {f fa fb : En → R PyData} {pos : Pos} {r : R2} {op : PyData → PyData → R PyData}
theorem eAdd (ha : PE X a (tS X.K c fa)) (hb : PE X b (tS X.K c fb)) : PE X (.BinOp a .Add b pos) (tE X.K c (xB addD fa fb)) := pe_imp (pe_op op_addX ha hb) (red_X xo_add)
theorem eB {o : Operator} (ho : OpR X (binaryOp o) r) (A : AO X.K r op) (ha : PE X a (tP X.K c fa)) (hb : PE X b (tP X.K c fb)) : PE X (.BinOp a o b pos) (tE X.K c (xB op fa fb)) := pe_imp (pe_op ho ha hb) (red_A A)
theorem eSub (ha : PE X a (tP X.K c fa)) (hb : PE X b (tP X.K c fb)) : PE X (.BinOp a .Sub b pos) (tE X.K c (xB subD fa fb)) := eB op_sub ao_sub ha hb
theorem eMul (ha : PE X a (tP X.K c fa)) (hb : PE X b (tP X.K c fb)) : PE X (.BinOp a .Mult b pos) (tE X.K c (xB mulD fa fb)) := eB op_mulX ao_mul ha hb
theorem eDiv (ha : PE X a (tP X.K c fa)) (hb : PE X b (tP X.K c fb)) : PE X (.BinOp a .FloorDiv b pos) (tE X.K c (xB fdivD fa fb)) := eB op_fdivW ao_fdiv ha hb
theorem eMod (ha : PE X a (tP X.K c fa)) (hb : PE X b (tP X.K c fb)) : PE X (.BinOp a .Mod b pos) (tE X.K c (xB modD fa fb)) := eB op_mod ao_mod ha hb
theorem ePow (ha : PE X a (tP X.K c fa)) (hb : PE X b (tP X.K c fb)) : PE X (.BinOp a .Pow b pos) (tE X.K c (xB powD fa fb)) := eB op_pow ao_pow ha hb
/-- a comparison: as a value, as a test -/
theorem eCmp {o : CmpOp} (ho : OpR X (compareOp o) r) (A : AO X.K r op) (hm : behindInMarks o b = false) (ha : PE X a (tP X.K c fa)) (hb : PE X b (tP X.K c fb)) : PE X (.Compare a [o] [b] pos) (tE X.K c (xB op fa fb)) := pe_imp (pe_cmpR ho ha hb hm) (red_A A)
/-- the truth that an answer that is a bool tells -/
@[simp] def xT (f : En → R PyData) : En → R Bool := fun ρ => (f ρ).bind fun d => match d with | .bool b => .ok b | _ => .bad
theorem red_T {f : En → R PyData} : ∀ σ H Q, tT X.K c (xT f) σ H Q → tE X.K c f σ H fun x H' => ∃ k, x = .bl k ∧ Q k H' := fun σ H Q ⟨F, ρ, rl, q⟩ =>
  ⟨F, ρ, rl, (Po.bind q).mono fun d F' H' _ x g v rv => by
    cases rv with
    | bl b => exact ⟨b, rfl, g F' H' (Ext.refl x.s)⟩
    | non => exact g.elim
    | int i => exact g.elim
    | str i => exact g.elim
    | lst _ _ => exact g.elim
    | tup _ _ => exact g.elim
    | dct _ _ => exact g.elim⟩
theorem tCmp {o : CmpOp} (ho : OpR X (compareOp o) r) (A : AO X.K r op) (hm : behindInMarks o b = false) (ha : PE X a (tP X.K c fa)) (hb : PE X b (tP X.K c fb)) : PT X (.Compare a [o] [b] pos) (tT X.K c (xT (xB op fa fb))) :=
  pt_imp (pt_cmpR ho ha hb hm) fun σ H Q q => red_A A σ H _ (red_T σ H Q q)
/-- an expression that tells a bool, as a test -/
theorem tVal (h : PE X e (tE X.K c f)) (he : ∀ whole, isTrue e X.env whole = (do let v ← whole; standAt e.pos; holding [v] (truthy v)) := by intro _; rfl) : PT X e (tT X.K c (xT f)) := pt_imp (pt_val h he) fun σ H Q q => red_T σ H Q q
theorem eIx (ha : PE X a (tS X.K c fa)) (hb : PE X b (tP X.K c fb)) (hs : PlainIx b := by exact fun _ _ => rfl) : PE X (.Subscript a b pos) (tE X.K c (xB ixD fa fb)) := pe_imp (pe_ix ix_seq ha hb hs) (red_C co_ix)
theorem eDg {k : Nat} (hr : Room k X.A) (ha : PE X a (tS X.K c fa)) (hb : PE X b (tP X.K c fb)) (hs : NoSl b := by exact fun _ _ => rfl) : PE X (.Subscript a b pos) (tE X.K c (xB dgetD fa fb)) := pe_imp (pe_dget (hu_of hr) ha hb hs) (red_C co_dget)
end
end DL
set_option Elab.async false
set_option linter.all false
set_option maxRecDepth 100000
set_option maxHeartbeats 1000000
/-! Calls of built-ins, methods, displays, slices. -/
namespace DL
open PySem PySem.Spec L2
/-! ### argument lists -/
@[simp] def xNil : En → R (List PyData) := fun _ => .ok []
@[simp] def xCons (f : En → R PyData) (g : En → R (List PyData)) : En → R (List PyData) := fun ρ => (f ρ).bind fun d => (g ρ).bind fun ds => .ok (d :: ds)
section
variable {X : Cx} {c : Cc} {e a b : Expr} {es : List Expr} {f fa fb : En → R PyData} {g : En → R (List PyData)} {pos : Pos}
theorem aNil : PA X [] (tA X.K c xNil) := pa_imp pa_nil fun σ H Q ⟨F, ρ, r, q⟩ => q F H (Ext.refl r.s) [] .nil
theorem sNil : PA X [] (tAS X.K c xNil) := pa_imp pa_nil fun σ H Q ⟨F, ρ, r, q⟩ => q F H (Ext.refl r.s) [] .nil
theorem aCons (ha : PE X e (tE X.K c f)) (hr : PA X es (tA X.K c g)) (hs : starEach (e :: es) X.env = (false, eval e X.env) :: starEach es X.env := by rfl) : PA X (e :: es) (tA X.K c (xCons f g)) := pa_imp (pa_cons ha hr hs) fun σ H Q ⟨F, ρ, r, q⟩ =>
  ⟨F, ρ, r, (Po.bind q).mono fun d F1 H1 _ x1 k v rv => ⟨F1, ρ, r.ext x1, (Po.bind k).mono fun ds F2 H2 _ x2 k2 vs rvs => k2 F2 H2 (Ext.refl x2.s) _ (.cons (rv.same x2.f) rvs)⟩⟩
theorem sCons (ha : PE X e (tS X.K c f)) (hr : PA X es (tAS X.K c g)) (hs : starEach (e :: es) X.env = (false, eval e X.env) :: starEach es X.env := by rfl) : PA X (e :: es) (tAS X.K c (xCons f g)) := pa_imp (pa_cons ha hr hs) fun σ H Q ⟨F, ρ, r, q⟩ =>
  ⟨F, ρ, r, (Po.bind q).mono fun d F1 H1 _ x1 k v rv => ⟨F1, ρ, r.ext x1, (Po.bind k).mono fun ds F2 H2 _ x2 k2 vs rvs => k2 F2 H2 (Ext.refl x2.s) _ (.cons (rv.ext x2) rvs)⟩⟩
/-- (a, b, ..) -/
@[simp] def xTup (g : En → R (List PyData)) : En → R PyData := fun ρ => (g ρ).bind fun ds => if ds.length ≤ sizeLine then .ok (.tuple ds) else .bad
theorem eTup {x1} (h : PA X es (tA X.K c g)) : PE X (.Tuple es x1 pos) (tE X.K c (xTup g)) := pe_imp (pe_tup h) fun σ H Q ⟨F, ρ, r, q⟩ =>
  ⟨F, ρ, r, (Po.bind q).mono fun ds F1 H1 _ x1 k vs rvs => by
    by_cases hz : ds.length ≤ sizeLine
    · rw [if_pos hz] at k
      exact ⟨by rw [rvs.len]; exact hz, fun p hp => k _ _ (Ext.new x1.s hp) _ (.tup (.of upd_same) (rvs.same (Ext.new x1.s hp).f))⟩
    · rw [if_neg hz] at k; exact k.elim⟩
/-- [a, b, ..] -/
@[simp] def xLs (g : En → R (List PyData)) : En → R (List PyData) := fun ρ => (g ρ).bind fun ds => if ds.length ≤ sizeLine then .ok ds else .bad
theorem lLst (h : PA X es (tA X.K c g)) : PE X (.List es pos) (tL X.K c (xLs g)) := pe_imp (pe_lst h) fun σ H Q ⟨F, ρ, r, q⟩ =>
  ⟨F, ρ, r, (Po.bind q).mono fun ds F1 H1 _ x1 k vs rvs => by
    by_cases hz : ds.length ≤ sizeLine
    · rw [if_pos hz] at k
      exact ⟨by rw [rvs.len]; exact hz, fun p hp => k F1 _ (Ext.own x1.s hp) p vs upd_same (x1.s.free hp) (x1.h.free hp) rvs⟩
    · rw [if_neg hz] at k; exact k.elim⟩
@[simp] def xL (g : En → R (List PyData)) : En → R PyData := fun ρ => (g ρ).bind fun ds => .ok (.list ds)
theorem eL {g : En → R (List PyData)} (h : PE X e (tL X.K c g)) : PE X e (tE X.K c (xL g)) := ofL h
/-- {} -/
@[simp] def xD0 : En → R (List (PyData × PyData)) := fun _ => .ok []
theorem dNew : PE X (.Dict [] [] pos) (tD X.K c xD0) := pe_imp pe_dnewK fun σ H Q ⟨F, ρ, r, q⟩ => fun p hp => q F _ (Ext.own r.s hp) p [] upd_same (r.s.free hp) hp .nil
@[simp] def xDc (g : En → R (List (PyData × PyData))) : En → R PyData := fun ρ => (g ρ).bind fun es => .ok (.dict es)
theorem eDc {g : En → R (List (PyData × PyData))} (h : PE X e (tD X.K c g)) : PE X e (tE X.K c (xDc g)) := pe_imp h fun σ H Q ⟨F, ρ, r, q⟩ => by
  refine ⟨F, ρ, r, ?_⟩
  unfold xDc at q
  cases hf : g ρ with
  | ok es =>
    rw [hf] at q
    refine fun F' H' x p ks hp fp np rv => ?_
    have sm : Same F' (upd F' p (.dK ks)) := same_new fp
    refine q _ H' ⟨x.f.trans sm, x.h, Same.freeze x.s hp, fun b o e => ?_⟩ _ (.dct upd_same (rv.same sm))
    by_cases z : b = p
    · subst z; exact Or.inr np
    · rw [upd_ne z] at e; exact x.n b o e
  | exc n => rw [hf] at q; exact q
  | bad => rw [hf] at q; exact q
end

/-! ### built-ins by values -/
/-- the answer is flat -/
structure BO (K : Fg) (r : List V → Hp → VK → Prop) (op : List PyData → R PyData) : Prop where
  sound : ∀ (ds : List PyData) (d : PyData) (vs : List V) (F H : Hp) (Q : VK), Same F H → RsA K F H vs ds → op ds = .ok d → (∀ w, (∀ G, Rp K G w d) → Q w H) → r vs H Q
  noexc : ∀ ds n, op ds ≠ .exc n
/-- the answer is a new list -/
structure BL (K : Fg) (r : List V → Hp → VK → Prop) (op : List PyData → R (List PyData)) : Prop where
  sound : ∀ (ds es : List PyData) (vs : List V) (F H : Hp) (Q : VK), Same F H → RsA K F H vs ds → op ds = .ok es → (∀ p ws, H p = none → RpA K F ws es → Q (.ref p) (upd H p (.lst ws))) → r vs H Q
  noexc : ∀ ds n, op ds ≠ .exc n
/-- the answer is data, new or old -/
structure BX (K : Fg) (r : List V → Hp → VK → Prop) (op : List PyData → R PyData) : Prop where
  sound : ∀ (ds : List PyData) (d : PyData) (vs : List V) (F H : Hp) (Q : VK), Same F H → RsA K F H vs ds → op ds = .ok d → (∀ F' H' w, Ext F H F' H' → Rp K F' w d → Q w H') → r vs H Q
  noexc : ∀ ds n, op ds ≠ .exc n
@[simp] def xF (op : List PyData → R PyData) (g : En → R (List PyData)) : En → R PyData := fun ρ => (g ρ).bind op
@[simp] def xFL (op : List PyData → R (List PyData)) (g : En → R (List PyData)) : En → R (List PyData) := fun ρ => (g ρ).bind op
section
variable {X : Cx} {c : Cc} {e a b o : Expr} {es : List Expr} {f fa fb : En → R PyData} {g : En → R (List PyData)} {pos p apos : Pos} {r : List V → Hp → VK → Prop} {op : List PyData → R PyData} {opl : List PyData → R (List PyData)} {x : Str} {id T : String}
theorem red_BO (A : BO X.K r op) : ∀ σ H Q, tE X.K c (xF op g) σ H Q → tCB r (tAS X.K c g) σ H Q := fun σ H Q ⟨F, ρ, rl, q⟩ =>
  ⟨F, ρ, rl, (Po.bind q).mono fun ds F1 H1 _ x1 k vs rvs => by
    cases ho : op ds with
    | ok d => rw [ho] at k; exact A.sound ds d vs F1 H1 Q x1.s rvs ho fun w hw => k F1 H1 (Ext.refl x1.s) w (hw F1)
    | exc n => exact (A.noexc _ _ ho).elim
    | bad => rw [ho] at k; exact k.elim⟩
theorem red_BX (A : BX X.K r op) : ∀ σ H Q, tE X.K c (xF op g) σ H Q → tCB r (tAS X.K c g) σ H Q := fun σ H Q ⟨F, ρ, rl, q⟩ =>
  ⟨F, ρ, rl, (Po.bind q).mono fun ds F1 H1 _ x1 k vs rvs => by
    cases ho : op ds with
    | ok d => rw [ho] at k; exact A.sound ds d vs F1 H1 Q x1.s rvs ho fun F' H' w xe hw => k F' H' xe w hw
    | exc n => exact (A.noexc _ _ ho).elim
    | bad => rw [ho] at k; exact k.elim⟩
theorem red_BL (A : BL X.K r opl) : ∀ σ H Q, tL X.K c (xFL opl g) σ H Q → tCB r (tAS X.K c g) σ H Q := fun σ H Q ⟨F, ρ, rl, q⟩ =>
  ⟨F, ρ, rl, (Po.bind q).mono fun ds F1 H1 _ x1 k vs rvs => by
    cases ho : opl ds with
    | ok d => rw [ho] at k; exact A.sound ds d vs F1 H1 Q x1.s rvs ho fun p ws hp hw => k F1 _ (Ext.own x1.s hp) p ws upd_same (x1.s.free hp) (x1.h.free hp) hw
    | exc n => exact (A.noexc _ _ ho).elim
    | bad => rw [ho] at k; exact k.elim⟩
theorem eBf (hc : CallR X (.builtin id) r) (A : BO X.K r op) (hg : Gl X x) (hm : X.mg x = none) (hv : bootBuiltins x = some (.builtin id)) (ha : PA X (e :: es) (tAS X.K c g)) (hn : x ≠ "__name__" := by decide) (hdb : (x == ("__debug__" : Str)) = false := by decide)
    (he : starEach (e :: es) X.env = (false, eval e X.env) :: starEach es X.env := by rfl) (hpl : (backTo pos (starEach es X.env)).any (·.1) = false := by rfl) : PE X (.Call (.Name x p) (e :: es) [] pos) (tE X.K c (xF op g)) :=
  pe_imp (pe_callB hc hg hm hv ha hn hdb he hpl) (red_BO A)
theorem lBf (hc : CallR X (.builtin id) r) (A : BL X.K r opl) (hg : Gl X x) (hm : X.mg x = none) (hv : bootBuiltins x = some (.builtin id)) (ha : PA X (e :: es) (tAS X.K c g)) (hn : x ≠ "__name__" := by decide) (hdb : (x == ("__debug__" : Str)) = false := by decide)
    (he : starEach (e :: es) X.env = (false, eval e X.env) :: starEach es X.env := by rfl) (hpl : (backTo pos (starEach es X.env)).any (·.1) = false := by rfl) : PE X (.Call (.Name x p) (e :: es) [] pos) (tL X.K c (xFL opl g)) :=
  pe_imp (pe_callB hc hg hm hv ha hn hdb he hpl) (red_BL A)
theorem eTf (hc : CallR X (.type T) r) (A : BO X.K r op) (hg : Gl X x) (hm : X.mg x = none) (hv : bootBuiltins x = some (.type T)) (ha : PA X (e :: es) (tAS X.K c g)) (hn : x ≠ "__name__" := by decide) (hdb : (x == ("__debug__" : Str)) = false := by decide)
    (he : starEach (e :: es) X.env = (false, eval e X.env) :: starEach es X.env := by rfl) (hpl : (backTo pos (starEach es X.env)).any (·.1) = false := by rfl) : PE X (.Call (.Name x p) (e :: es) [] pos) (tE X.K c (xF op g)) :=
  pe_imp (pe_callTy hc hg hm hv ha hn hdb he hpl) (red_BO A)
theorem eTx (hc : CallR X (.type T) r) (A : BX X.K r op) (hg : Gl X x) (hm : X.mg x = none) (hv : bootBuiltins x = some (.type T)) (ha : PA X (e :: es) (tAS X.K c g)) (hn : x ≠ "__name__" := by decide) (hdb : (x == ("__debug__" : Str)) = false := by decide)
    (he : starEach (e :: es) X.env = (false, eval e X.env) :: starEach es X.env := by rfl) (hpl : (backTo pos (starEach es X.env)).any (·.1) = false := by rfl) : PE X (.Call (.Name x p) (e :: es) [] pos) (tE X.K c (xF op g)) :=
  pe_imp (pe_callTy hc hg hm hv ha hn hdb he hpl) (red_BX A)
theorem lTf (hc : CallR X (.type T) r) (A : BL X.K r opl) (hg : Gl X x) (hm : X.mg x = none) (hv : bootBuiltins x = some (.type T)) (ha : PA X (e :: es) (tAS X.K c g)) (hn : x ≠ "__name__" := by decide) (hdb : (x == ("__debug__" : Str)) = false := by decide)
    (he : starEach (e :: es) X.env = (false, eval e X.env) :: starEach es X.env := by rfl) (hpl : (backTo pos (starEach es X.env)).any (·.1) = false := by rfl) : PE X (.Call (.Name x p) (e :: es) [] pos) (tL X.K c (xFL opl g)) :=
  pe_imp (pe_callTy hc hg hm hv ha hn hdb he hpl) (red_BL A)
end

/-! ### which built-ins -/
@[simp] def lenD : List PyData → R PyData
  | [.list ds] => .ok (.int ds.length)
  | [.tuple ds] => .ok (.int ds.length)
  | [.str z] => if z.length ≤ sizeLine then .ok (.int z.length) else .bad
  | [.dict es] => .ok (.int es.length)
  | _ => .bad
@[simp] def absD : List PyData → R PyData
  | [.int i] => .ok (.int (if i < 0 then -i else i))
  | _ => .bad
@[simp] def minD : List PyData → R PyData
  | [.int i, .int j] => .ok (.int (if j < i then j else i))
  | _ => .bad
@[simp] def maxD : List PyData → R PyData
  | [.int i, .int j] => .ok (.int (if j > i then j else i))
  | _ => .bad
@[simp] def intD : List PyData → R PyData
  | [.int i] => .ok (.int i)
  | [.bool b] => .ok (.int (if b then 1 else 0))
  | [.str a] => (match PySem.intText? a with
    | some n => if a.length ≤ 640 then .ok (.int n) else .bad
    | none => .bad)
  | _ => .bad
def strD : List PyData → R PyData
  | [.int i] => if i.natAbs.log2 < 1920 then .ok (.str (toString i)) else .bad
  | [.str a] => .ok (.str a)
  | _ => .bad
def intsOf : List PyData → Option (List Int)
  | [] => some []
  | .int i :: r => (intsOf r).map (i :: ·)
  | _ => none
def strsOf : List PyData → Option (List Str)
  | [] => some []
  | .str i :: r => (strsOf r).map (i :: ·)
  | _ => none
theorem intsOf_eq : ∀ {ds : List PyData} {ns : List Int}, intsOf ds = some ns → ds = ns.map PyData.int
  | [], _, h => by cases h; rfl
  | d :: ds, ns, h => by
    cases d with
    | int i =>
      simp only [intsOf, Option.map_eq_some_iff] at h
      obtain ⟨m, h1, h2⟩ := h
      subst h2
      rw [intsOf_eq h1]
      rfl
    | _ => cases h
theorem strsOf_eq : ∀ {ds : List PyData} {ns : List Str}, strsOf ds = some ns → ds = ns.map PyData.str
  | [], _, h => by cases h; rfl
  | d :: ds, ns, h => by
    cases d with
    | str i =>
      simp only [strsOf, Option.map_eq_some_iff] at h
      obtain ⟨m, h1, h2⟩ := h
      subst h2
      rw [strsOf_eq h1]
      rfl
    | _ => cases h
@[simp] theorem intsOf_map : ∀ ns : List Int, intsOf (ns.map PyData.int) = some ns
  | [] => rfl
  | n :: ns => by simp [intsOf, intsOf_map ns]
@[simp] theorem strsOf_map : ∀ ns : List Str, strsOf (ns.map PyData.str) = some ns
  | [] => rfl
  | n :: ns => by simp [strsOf, strsOf_map ns]
@[simp] def sumD : List PyData → R PyData
  | [.list ds] => (match intsOf ds with
    | some ns => .ok (.int ns.sum)
    | none => .bad)
  | _ => .bad
/-- ints, rising -/
def sortI (ns : List Int) : List Int := ns.mergeSort (fun a b => decide (a ≤ b))
theorem sortI_eq {ns ms : List Int} (p : ms.Perm ns) (s : ms.Pairwise (· ≤ ·)) : ms = sortI ns := by
  have h1 : (sortI ns).Perm ns := List.mergeSort_perm _ _
  have h2 : (sortI ns).Pairwise (fun a b => decide (a ≤ b) = true) := List.pairwise_mergeSort (by intro a b c; simp; omega) (by intro a b; simp; omega) _
  have h3 : (sortI ns).Pairwise (· ≤ ·) := h2.imp (by intro a b h; simpa using h)
  exact (p.trans h1.symm).eq_of_pairwise (fun a b _ _ x y => Int.le_antisymm x y) s h3
def keysI : List (PyData × PyData) → Option (List Int) := fun es => intsOf (es.map (·.1))
def sortedD : List PyData → R (List PyData)
  | [.list ds] => (match intsOf ds with
    | some ns => .ok ((sortI ns).map PyData.int)
    | none => .bad)
  | [.dict es] => (match keysI es with
    | some ns => if ns.length < 64 then .ok ((sortI ns).map PyData.int) else .bad
    | none => .bad)
  | _ => .bad
@[simp] def listD : List PyData → R (List PyData)
  | [.list ds] => .ok ds
  | [.tuple ds] => .ok ds
  | _ => .bad
@[simp] def tupleD : List PyData → R PyData
  | [.list ds] => .ok (.tuple ds)
  | [.tuple ds] => .ok (.tuple ds)
  | _ => .bad
section
variable {K : Fg} {X : Cx}
theorem rs1 {F H : Hp} {vs : List V} {d : PyData} (r : RsA K F H vs [d]) : ∃ v, vs = [v] ∧ Rs K F H v d := by
  cases r with
  | cons a t => cases t; exact ⟨_, rfl, a⟩
theorem rs2 {F H : Hp} {vs : List V} {d d' : PyData} (r : RsA K F H vs [d, d']) : ∃ v v', vs = [v, v'] ∧ Rs K F H v d ∧ Rs K F H v' d' := by
  cases r with
  | cons a t => cases t with
    | cons b t => cases t; exact ⟨_, _, rfl, a, b⟩
theorem RpK.len {H : Hp} : ∀ {ks : List (Key × V)} {es : List (PyData × PyData)}, RpK K H ks es → ks.length = es.length
  | _, _, .nil => rfl
  | _, _, .cons _ t => by rw [List.length_cons, List.length_cons, RpK.len t]
theorem RpK.keys {H : Hp} : ∀ {ks : List (Key × V)} {es : List (PyData × PyData)}, RpK K H ks es → es.map (·.1) = ks.map fun p => kD p.1
  | _, _, .nil => rfl
  | _, _, .cons _ t => by rw [List.map_cons, List.map_cons, RpK.keys t]
def rLenX (K : Fg) : List V → Hp → VK → Prop := fun xs H Q => (∃ x n, xs = [x] ∧ LenV K x H n ∧ Q (.int n) H) ∨ ∃ a kvs, xs = [V.ref a] ∧ H a = some (.dK kvs) ∧ Q (.int kvs.length) H
theorem call_lenX : CallR X (.builtin "len") (rLenX X.K) := call_len.or call_lenD
theorem bo_len : BO K (rLenX K) lenD where
  noexc := fun ds n h => by
    unfold lenD at h
    split at h <;> first | cases h; done | (split at h <;> cases h)
  sound := fun ds d vs F H Q s r h q => by
    unfold lenD at h
    split at h
    · cases h
      obtain ⟨v, rfl, rv⟩ := rs1 r
      obtain ⟨a, ws, rfl, h1, h2⟩ := rv.list s
      exact Or.inl ⟨_, _, rfl, Or.inl ⟨_, h1, rfl⟩, by rw [h2.len]; exact q _ fun _ => .int _⟩
    · cases h
      obtain ⟨v, rfl, rv⟩ := rs1 r
      obtain ⟨a, ws, rfl, h1, h2⟩ := rv.tuple s
      exact Or.inl ⟨_, _, rfl, Or.inr ⟨_, h1, rfl⟩, by rw [h2.len]; exact q _ fun _ => .int _⟩
    · split at h
      · rename_i hz
        cases h
        obtain ⟨v, rfl, rv⟩ := rs1 r
        rw [rv.str]
        exact Or.inl ⟨_, _, rfl, ⟨hz, rfl⟩, q _ fun _ => .int _⟩
      · cases h
    · cases h
      obtain ⟨v, rfl, rv⟩ := rs1 r
      obtain ⟨a, ws, rfl, h1, h2⟩ := rv.dict s
      exact Or.inr ⟨_, _, rfl, h1, by rw [h2.len]; exact q _ fun _ => .int _⟩
    · cases h
theorem bo_abs : BO K (fun xs H Q => ∃ i, xs = [.int i] ∧ Q (.int (if i < 0 then -i else i)) H) absD where
  noexc := fun ds n h => by unfold absD at h; split at h <;> cases h
  sound := fun ds d vs F H Q s r h q => by
    unfold absD at h
    split at h
    · cases h
      obtain ⟨v, rfl, rv⟩ := rs1 r
      exact ⟨_, by rw [rv.int], q _ fun _ => .int _⟩
    · cases h
theorem bo_min : BO K (fun xs H Q => ∃ i j, xs = [.int i, .int j] ∧ Q (.int (if j < i then j else i)) H) minD where
  noexc := fun ds n h => by unfold minD at h; split at h <;> cases h
  sound := fun ds d vs F H Q s r h q => by
    unfold minD at h
    split at h
    · cases h
      obtain ⟨v, v', rfl, rv, rv'⟩ := rs2 r
      exact ⟨_, _, by rw [rv.int, rv'.int], q _ fun _ => .int _⟩
    · cases h
theorem bo_max : BO K (fun xs H Q => ∃ i j, xs = [.int i, .int j] ∧ Q (.int (if j > i then j else i)) H) maxD where
  noexc := fun ds n h => by unfold maxD at h; split at h <;> cases h
  sound := fun ds d vs F H Q s r h q => by
    unfold maxD at h
    split at h
    · cases h
      obtain ⟨v, v', rfl, rv, rv'⟩ := rs2 r
      exact ⟨_, _, by rw [rv.int, rv'.int], q _ fun _ => .int _⟩
    · cases h
def rIntX : List V → Hp → VK → Prop := fun xs H Q => ((∃ i, xs = [.int i] ∧ Q (.int i) H) ∨ ∃ k, xs = [.bl k] ∧ Q (.int (if k then 1 else 0)) H) ∨ ∃ a n, xs = [.str a] ∧ PySem.intText? a = some n ∧ a.length ≤ 640 ∧ Q (.int n) H
theorem call_intX : CallR X (.type "int") rIntX := call_int1.or call_int_str
theorem bo_int : BO K rIntX intD where
  noexc := fun ds n h => by
    unfold intD at h
    split at h
    · cases h
    · cases h
    · split at h
      · split at h <;> cases h
      · cases h
    · cases h
  sound := fun ds d vs F H Q s r h q => by
    unfold intD at h
    split at h
    · cases h
      obtain ⟨v, rfl, rv⟩ := rs1 r
      exact Or.inl (Or.inl ⟨_, by rw [rv.int], q _ fun _ => .int _⟩)
    · cases h
      obtain ⟨v, rfl, rv⟩ := rs1 r
      exact Or.inl (Or.inr ⟨_, by rw [rv.bl], q _ fun _ => .int _⟩)
    · split at h
      · rename_i n hn
        split at h
        · rename_i hz
          cases h
          obtain ⟨v, rfl, rv⟩ := rs1 r
          exact Or.inr ⟨_, _, by rw [rv.str], hn, hz, q _ fun _ => .int _⟩
        · cases h
      · cases h
    · cases h
def rStrX : List V → Hp → VK → Prop := fun xs H Q => (∃ i, xs = [.int i] ∧ i.natAbs.log2 < 1920 ∧ Q (.str (toString i)) H) ∨ ∃ a, xs = [.str a] ∧ Q (.str a) H
theorem call_strX : CallR X (.type "str") rStrX := call_str_int.or SkE.call_str_str
theorem bo_str : BO K rStrX strD where
  noexc := fun ds n h => by
    unfold strD at h
    split at h
    · split at h <;> cases h
    · cases h
    · cases h
  sound := fun ds d vs F H Q s r h q => by
    unfold strD at h
    split at h
    · split at h
      · rename_i hz
        cases h
        obtain ⟨v, rfl, rv⟩ := rs1 r
        exact Or.inl ⟨_, by rw [rv.int], hz, q _ fun _ => .str _⟩
      · cases h
    · cases h
      obtain ⟨v, rfl, rv⟩ := rs1 r
      exact Or.inr ⟨_, by rw [rv.str], q _ fun _ => .str _⟩
    · cases h
theorem bo_sum : BO K (rSum K) sumD where
  noexc := fun ds n h => by
    unfold sumD at h
    split at h
    · split at h <;> cases h
    · cases h
  sound := fun ds d vs F H Q s r h q => by
    unfold sumD at h
    split at h
    · split at h
      · rename_i ns hn
        cases h
        obtain ⟨v, rfl, rv⟩ := rs1 r
        rw [intsOf_eq hn] at rv
        obtain ⟨a, ws, rfl, h1, h2⟩ := rv.list s
        rw [h2.ints'] at h1
        exact ⟨_, _, rfl, h1, q _ fun _ => .int _⟩
      · cases h
    · cases h
def rSortX (K : Fg) : List V → Hp → VK → Prop := fun xs H Q => rSortedI K xs H Q ∨ ∃ (a : Addr) (kvs : List (Key × V)) (ks : List Int), xs = [.ref a] ∧ Rd H a (.dK kvs) ∧ kvs.map (·.1) = ks.map Sum.inl ∧ ks.length < 64 ∧
  ∀ (ys : List Int) (p : Addr), ys.Perm ks → ys.Pairwise (· ≤ ·) → H p = none → Q (.ref p) (upd H p (.lst (ys.map V.int)))
theorem call_sortX (hc : X.calm = true) : CallR X (.builtin "sorted") (rSortX X.K) := cr_sortedI.or (call_sortedDI hc)
theorem kD_int {k : Key} {i : Int} (h : kD k = .int i) : k = .inl i := by
  cases k with
  | inl j => cases h; rfl
  | inr y => cases h
theorem keys_int : ∀ {ks : List (Key × V)} {ns : List Int}, ks.map (fun p => kD p.1) = ns.map PyData.int → ks.map (·.1) = ns.map Sum.inl
  | [], [], _ => rfl
  | [], _ :: _, h => by cases h
  | _ :: _, [], h => by cases h
  | k :: ks, n :: ns, h => by
    simp only [List.map_cons, List.cons.injEq] at h ⊢
    exact ⟨kD_int h.1, keys_int h.2⟩
theorem bl_sort : BL K (rSortX K) sortedD where
  noexc := fun ds n h => by
    unfold sortedD at h
    split at h
    · split at h <;> cases h
    · split at h
      · split at h <;> cases h
      · cases h
    · cases h
  sound := fun ds es vs F H Q s r h q => by
    unfold sortedD at h
    split at h
    · split at h
      · rename_i ns hn
        cases h
        obtain ⟨v, rfl, rv⟩ := rs1 r
        rw [intsOf_eq hn] at rv
        obtain ⟨a, ws, rfl, h1, h2⟩ := rv.list s
        rw [h2.ints'] at h1
        refine Or.inl ⟨_, _, rfl, h1, fun ms p hp hs hn => ?_⟩
        rw [sortI_eq hp hs]
        exact q _ _ hn (RpA.ints _)
      · cases h
    · split at h
      · rename_i es ns hn
        split at h
        · rename_i hz
          cases h
          obtain ⟨v, rfl, rv⟩ := rs1 r
          obtain ⟨a, ws, rfl, h1, h2⟩ := rv.dict s
          refine Or.inr ⟨_, _, ns, rfl, Rd.of h1, keys_int ?_, hz, fun ms p hp hs hn => ?_⟩
          · rw [← h2.keys]; exact intsOf_eq hn
          · rw [sortI_eq hp hs]
            exact q _ _ hn (RpA.ints _)
        · cases h
      · cases h
    · cases h
theorem bl_list : BL K (fun xs H Q => ∃ p ys, xs = [.ref p] ∧ (SqL K H p ys ∨ SqT K H p ys) ∧ ∀ l, H l = none → Q (.ref l) (upd H l (.lst ys))) listD where
  noexc := fun ds n h => by unfold listD at h; split at h <;> cases h
  sound := fun ds es vs F H Q s r h q => by
    unfold listD at h
    split at h
    · cases h
      obtain ⟨v, rfl, rv⟩ := rs1 r
      obtain ⟨a, ws, rfl, h1, h2⟩ := rv.list s
      exact ⟨_, _, rfl, Or.inl h1, fun l hl => q l ws hl h2⟩
    · cases h
      obtain ⟨v, rfl, rv⟩ := rs1 r
      obtain ⟨a, ws, rfl, h1, h2⟩ := rv.tuple s
      exact ⟨_, _, rfl, Or.inr h1, fun l hl => q l ws hl h2⟩
    · cases h
theorem bx_tuple : BX K (fun xs H Q => ∃ p ys, xs = [.ref p] ∧ ((SqL K H p ys ∧ ∀ l, H l = none → Q (.ref l) (upd H l (.tup ys))) ∨ (SqT K H p ys ∧ Q (.ref p) H))) tupleD where
  noexc := fun ds n h => by unfold tupleD at h; split at h <;> cases h
  sound := fun ds es vs F H Q s r h q => by
    unfold tupleD at h
    split at h
    · cases h
      obtain ⟨v, rfl, rv⟩ := rs1 r
      obtain ⟨a, ws, rfl, h1, h2⟩ := rv.list s
      exact ⟨_, _, rfl, Or.inl ⟨h1, fun l hl => q _ _ _ (Ext.new s hl) (.tup (.of upd_same) (h2.same (Ext.new s hl).f))⟩⟩
    · cases h
      obtain ⟨v, rfl, rv⟩ := rs1 r
      obtain ⟨a, ws, e1, h1, h2⟩ := rv.tuple s
      exact ⟨_, _, by rw [e1], Or.inr ⟨h1, e1 ▸ q F H _ (Ext.refl s) rv.tupleF⟩⟩
    · cases h

/-! ### isinstance with a built-in class -/
def tyD : PyData → String
  | .none => "NoneType"
  | .bool _ => "bool"
  | .int _ => "int"
  | .str _ => "str"
  | .list _ => "list"
  | .tuple _ => "tuple"
  | .dict _ => "dict"
theorem Rp.ty {H : Hp} {v : V} {d : PyData} (r : Rp K H v d) : TyX K H v (.type (tyD d)) := by
  cases r with
  | non => exact .base .non
  | bl b => exact .base (.bl b)
  | int i => exact .base (.int i)
  | str x => exact .base (.str x)
  | lst h _ =>
    rcases h with (h | ⟨o, h⟩) | ⟨o, its, n, h, hc, _⟩
    · exact .base (.lst h)
    · exact .base (.frz h)
    · exact .kList h hc
  | tup h _ =>
    rcases h with (h | ⟨o, h⟩) | ⟨o, its, n, h, hc, _⟩
    · exact .base (.tup h)
    · exact .fTuple h
    · exact .kTuple h hc
  | dct h _ => exact .base (.dK h)
@[simp] def xIsi (T : String) (f : En → R PyData) : En → R PyData := fun ρ => (f ρ).bind fun d => match kitB (tyD d) T with
  | some b => .ok (.bool b)
  | none => .bad
end
section
variable {X : Cx} {c : Cc} {e a b : Expr} {f : En → R PyData} {pos p q : Pos} {T : String} {x : Str}
theorem eIsi (hg : Gl X "isinstance") (hm : X.mg "isinstance" = none) (hgT : Gl X x) (hmT : X.mg x = none) (hvT : bootBuiltins x = some (.type T)) (ha : PE X a (tP X.K c f)) (hx : x ≠ "__name__" := by decide) (hxd : (x == ("__debug__" : Str)) = false := by decide)
    (h1 : starEach [a, .Name x q] X.env = (false, eval a X.env) :: starEach [.Name x q] X.env := by rfl) (h2 : starEach [.Name x q] X.env = (false, eval (.Name x q) X.env) :: starEach [] X.env := by rfl) (h3 : (backTo pos (starEach [.Name x q] X.env)).any (·.1) = false := by rfl) :
    PE X (.Call (.Name "isinstance" p) [a, .Name x q] [] pos) (tE X.K c (xIsi T f)) :=
  pe_imp (pe_callB call_isi hg hm (by decide +kernel) (pa_cons ha (pa_cons (pe_bltn (v := .ty T) hgT hmT hvT rfl hx hxd) pa_nil h2) h1) (by decide) (by decide) h1 h3) fun σ H Q ⟨F, ρ, r, k⟩ =>
    ⟨F, ρ, r, (Po.bind k).mono fun d F1 H1 _ x1 g v rv => by
      cases hk : kitB (tyD d) T with
      | some b =>
        rw [hk] at g
        exact ⟨_, _, _, _, b, rfl, .ty T, rv.ty, kit_ty hk, g F1 H1 (Ext.refl x1.s) _ (.bl b)⟩
      | none => rw [hk] at g; exact g.elim⟩
end
end DL
set_option Elab.async false
set_option linter.all false
set_option maxRecDepth 100000
set_option maxHeartbeats 1000000
/-! Methods and slices. -/
namespace DL
open PySem PySem.Spec L2
/-- a text's method with one argument -/
def xM1 (op : Str → PyData → R PyData) (fo fe : En → R PyData) : En → R PyData := fun ρ => (fo ρ).bind fun x => match x with
  | .str a => (fe ρ).bind fun y => op a y
  | _ => .bad
def xM1L (op : Str → PyData → R (List PyData)) (fo fe : En → R PyData) : En → R (List PyData) := fun ρ => (fo ρ).bind fun x => match x with
  | .str a => (fe ρ).bind fun y => op a y
  | _ => .bad
def partD (a : Str) : PyData → R PyData
  | .str b => if (b.length == 0) = false ∧ a.length ≤ sizeLine then .ok (.tuple [.str (Txt.partition a b).1, .str (Txt.partition a b).2.1, .str (Txt.partition a b).2.2]) else .bad
  | _ => .bad
def splitD (a : Str) : PyData → R (List PyData)
  | .str b => if (b.length == 0) = false ∧ a.length + 2 ≤ sizeLine then .ok ((Txt.split a b).map PyData.str) else .bad
  | _ => .bad
def joinD (a : Str) : PyData → R PyData
  | .list ds => (match strsOf ds with
    | some ys => if (ys.map (·.length)).sum + ys.length * a.length ≤ 16777216 then .ok (.str (Txt.join a ys)) else .bad
    | none => .bad)
  | _ => .bad
def scountD (a : Str) : PyData → R PyData
  | .str b => .ok (.int (Txt.count a b))
  | _ => .bad
def sindexD (a : Str) : PyData → R PyData
  | .str b => (match Builtin.Str.occurrences a b 0 a.length 1 with
    | i :: _ => .ok (.int (i : Nat))
    | [] => .bad)
  | _ => .bad
section
variable {X : Cx} {c : Cc} {e a b o : Expr} {es : List Expr} {f fo fe : En → R PyData} {g : En → R (List PyData)} {pos p apos : Pos} {op : Str → PyData → R PyData} {opl : Str → PyData → R (List PyData)} {r : V → List V → Hp → VK → Prop}
theorem red_M1 (snd : ∀ (a : Str) (y d : PyData) (u : V) (F H : Hp) (Q : VK), Same F H → Rs X.K F H u y → op a y = .ok d → (∀ F' H' w, Ext F H F' H' → Rp X.K F' w d → Q w H') → r (.str a) [u] H Q) (nox : ∀ a y n, op a y ≠ .exc n) :
    ∀ σ H Q, tE X.K c (xM1 op fo fe) σ H Q → tM1 r (tS X.K c fo) (tS X.K c fe) σ H Q := fun σ H Q ⟨F, ρ, rl, q⟩ =>
  ⟨F, ρ, rl, (Po.bind q).mono fun x F1 H1 _ x1 g v rv => by
    cases x with
    | str a =>
      refine ⟨⟨a, rv.str⟩, F1, ρ, rl.ext x1, (Po.bind g).mono fun y F2 H2 _ x2 k u ru => ?_⟩
      rw [rv.str]
      cases ho : op a y with
      | ok d => rw [ho] at k; exact snd a y d u F2 H2 Q x2.s ru ho fun F' H' w xe hw => k F' H' xe w hw
      | exc n => exact (nox _ _ _ ho).elim
      | bad => rw [ho] at k; exact k.elim
    | _ => exact g.elim⟩
theorem red_M1L (snd : ∀ (a : Str) (y : PyData) (es : List PyData) (u : V) (F H : Hp) (Q : VK), Same F H → Rs X.K F H u y → opl a y = .ok es → (∀ p ws, H p = none → RpA X.K F ws es → Q (.ref p) (upd H p (.lst ws))) → r (.str a) [u] H Q) (nox : ∀ a y n, opl a y ≠ .exc n) :
    ∀ σ H Q, tL X.K c (xM1L opl fo fe) σ H Q → tM1 r (tS X.K c fo) (tS X.K c fe) σ H Q := fun σ H Q ⟨F, ρ, rl, q⟩ =>
  ⟨F, ρ, rl, (Po.bind q).mono fun x F1 H1 _ x1 g v rv => by
    cases x with
    | str a =>
      refine ⟨⟨a, rv.str⟩, F1, ρ, rl.ext x1, (Po.bind g).mono fun y F2 H2 _ x2 k u ru => ?_⟩
      rw [rv.str]
      cases ho : opl a y with
      | ok d => rw [ho] at k; exact snd a y d u F2 H2 Q x2.s ru ho fun p ws hp hw => k F2 _ (Ext.own x2.s hp) p ws upd_same (x2.s.free hp) (x1.h.free (x2.h.free hp)) hw
      | exc n => exact (nox _ _ _ ho).elim
      | bad => rw [ho] at k; exact k.elim
    | _ => exact g.elim⟩
theorem ePart (ho : PE X o (tS X.K c fo)) (he : PE X e (tS X.K c fe)) (hs : starEach [e] X.env = [(false, eval e X.env)] := by rfl) (hbase : attributeBase o "partition" X.env (eval o X.env) = eval o X.env := by rfl) (hline : (apos.endLine == pos.line) = true := by rfl) :
    PE X (.Call (.Attribute o "partition" apos) [e] [] pos) (tE X.K c (xM1 partD fo fe)) :=
  pe_imp (pe_partition ho he hs hbase hline) (red_M1 (fun a y d u F H Q s ru h q => by
    unfold partD at h
    split at h
    · split at h
      · rename_i hz
        cases h
        exact ⟨a, _, rfl, by rw [ru.str], hz.1, hz.2, fun p hp => q _ _ _ (Ext.new s hp) (.tup (.of upd_same) (.cons (.str _) (.cons (.str _) (.cons (.str _) .nil))))⟩
      · cases h
    · cases h) fun a y n h => by
    unfold partD at h
    split at h
    · split at h <;> cases h
    · cases h)
theorem lSplit (ho : PE X o (tS X.K c fo)) (he : PE X e (tS X.K c fe)) (hs : starEach [e] X.env = [(false, eval e X.env)] := by rfl) (hbase : attributeBase o "split" X.env (eval o X.env) = eval o X.env := by rfl) (hline : (apos.endLine == pos.line) = true := by rfl) :
    PE X (.Call (.Attribute o "split" apos) [e] [] pos) (tL X.K c (xM1L splitD fo fe)) :=
  pe_imp (pe_split ho he hs hbase hline) (red_M1L (fun a y es u F H Q s ru h q => by
    unfold splitD at h
    split at h
    · split at h
      · rename_i hz
        cases h
        exact ⟨a, _, rfl, by rw [ru.str], hz.1, hz.2, fun p hp => q p _ hp (RpA.strs _)⟩
      · cases h
    · cases h) fun a y n h => by
    unfold splitD at h
    split at h
    · split at h <;> cases h
    · cases h)
theorem eJoin (ho : PE X o (tS X.K c fo)) (he : PE X e (tS X.K c fe)) (hs : starEach [e] X.env = [(false, eval e X.env)] := by rfl) (hbase : attributeBase o "join" X.env (eval o X.env) = eval o X.env := by rfl) (hline : (apos.endLine == pos.line) = true := by rfl) :
    PE X (.Call (.Attribute o "join" apos) [e] [] pos) (tE X.K c (xM1 joinD fo fe)) :=
  pe_imp (pe_join ho he hs hbase hline) (red_M1 (fun a y d u F H Q s ru h q => by
    unfold joinD at h
    split at h
    · split at h
      · rename_i ys hy
        split at h
        · rename_i hz
          cases h
          rw [strsOf_eq hy] at ru
          obtain ⟨p, ws, rfl, h1, h2⟩ := ru.list s
          rw [h2.strs'] at h1
          exact ⟨a, p, ys, rfl, rfl, Or.inl h1, hz, q F H _ (Ext.refl s) (.str _)⟩
        · cases h
      · cases h
    · cases h) fun a y n h => by
    unfold joinD at h
    split at h
    · split at h
      · split at h <;> cases h
      · cases h
    · cases h)
theorem eScount (ho : PE X o (tS X.K c fo)) (he : PE X e (tS X.K c fe)) (hs : starEach [e] X.env = [(false, eval e X.env)] := by rfl) (hbase : attributeBase o "count" X.env (eval o X.env) = eval o X.env := by rfl) (hline : (apos.endLine == pos.line) = true := by rfl) :
    PE X (.Call (.Attribute o "count" apos) [e] [] pos) (tE X.K c (xM1 scountD fo fe)) :=
  pe_imp (pe_m1 PySem.F.slot_str_count PySem.F.type_str_count mt_count ho he hs hbase hline) (red_M1 (fun a y d u F H Q s ru h q => by
    unfold scountD at h
    split at h
    · cases h
      exact ⟨a, _, rfl, by rw [ru.str], q F H _ (Ext.refl s) (.int _)⟩
    · cases h) fun a y n h => by
    unfold scountD at h
    split at h <;> cases h)
theorem eSindex (ho : PE X o (tS X.K c fo)) (he : PE X e (tS X.K c fe)) (hs : starEach [e] X.env = [(false, eval e X.env)] := by rfl) (hbase : attributeBase o "index" X.env (eval o X.env) = eval o X.env := by rfl) (hline : (apos.endLine == pos.line) = true := by rfl) :
    PE X (.Call (.Attribute o "index" apos) [e] [] pos) (tE X.K c (xM1 sindexD fo fe)) :=
  pe_imp (pe_m1 PySem.F.slot_str_index PySem.F.type_str_index mt_sindex ho he hs hbase hline) (red_M1 (fun a y d u F H Q s ru h q => by
    unfold sindexD at h
    split at h
    · split at h
      · rename_i i rest hi
        cases h
        exact ⟨a, _, i, rest, rfl, by rw [ru.str], hi, q F H _ (Ext.refl s) (.int _)⟩
      · cases h
    · cases h) fun a y n h => by
    unfold sindexD at h
    split at h
    · split at h <;> cases h
    · cases h)
end

/-! ### a list's methods that only look -/
def idx (d : PyData) : List PyData → Option Nat
  | [] => none
  | z :: r => if PyData.eqv z d = true then some 0 else (idx d r).map (· + 1)
theorem idx_some : ∀ {ds : List PyData} {d : PyData} {j : Nat}, idx d ds = some j → ∃ z, ds[j]? = some z ∧ PyData.eqv z d = true ∧ ∀ (m : Nat) (z' : PyData), m < j → ds[m]? = some z' → PyData.eqv z' d = false
  | [], _, _, h => by cases h
  | z :: r, d, j, h => by
    unfold idx at h
    by_cases hz : PyData.eqv z d = true
    · rw [if_pos hz] at h
      cases h
      exact ⟨z, rfl, hz, fun m z' hm => absurd hm (by omega)⟩
    · rw [if_neg hz] at h
      simp only [Option.map_eq_some_iff] at h
      obtain ⟨k, h1, h2⟩ := h
      subst h2
      obtain ⟨y, h3, h4, h5⟩ := idx_some h1
      refine ⟨y, h3, h4, fun m z' hm hz' => ?_⟩
      cases m with
      | zero => cases hz'; simpa using hz
      | succ m => exact h5 m z' (by omega) hz'
@[simp] def xLM (op : List PyData → PyData → R PyData) (fo fe : En → R PyData) : En → R PyData := fun ρ => (fo ρ).bind fun x => match x with
  | .list ds => (fe ρ).bind fun y => op ds y
  | _ => .bad
def lindexD (ds : List PyData) (y : PyData) : R PyData := if SeqAt.shaped (.list ds) = true ∧ SeqAt.shaped y = true then (match idx y ds with
  | some j => .ok (.int (j : Nat))
  | none => .bad) else .bad
section
variable {X : Cx} {c : Cc} {e a b o : Expr} {es : List Expr} {f fo fe fx : En → R PyData} {g : En → R (List PyData)} {pos p apos p2 : Pos}
theorem eLindex {k : Nat} (hr : Room k X.A) (ho : PE X o (tS X.K c fo)) (he : PE X e (tP X.K c fe)) (hbase : attributeBase o "index" X.env (eval o X.env) = eval o X.env := by rfl)
    (hfew : ((backTo pos (starEach [e] X.env)).all (fun x => !x.1) && (backToKw pos (keywordEach [] X.env)).all (fun x => x.1.isSome)
      && decide (([e] : List Expr).length + ([] : List Keyword).length + (if ([] : List Keyword).isEmpty then 0 else 1) < 30)) = true := by rfl)
    (hline : (apos.endLine == pos.line) = true := by rfl) (hs : starEach [e] X.env = (false, eval e X.env) :: starEach [] X.env := by rfl) (hplain : (backTo pos (starEach [] X.env)).any (·.1) = false := by rfl) :
    PE X (.Call (.Attribute o "index" apos) [e] [] pos) (tE X.K c (xLM lindexD fo fe)) :=
  pe_imp (pe_bm PySem.F.plainAttrs_list PySem.F.slot_list_index PySem.F.type_list_index (mt_indexD (Room.u65 hr)) ho (pa_cons he pa_nil hs) hbase hfew hline hs hplain) fun σ H Q ⟨F, ρ, rl, q⟩ =>
    ⟨F, ρ, rl, (Po.bind q).mono fun x F1 H1 _ x1 g v rv => by
      cases x with
      | list ds =>
        obtain ⟨a1, ws, rfl, h1, h2⟩ := rv.list x1.s
        refine ⟨Or.inl ⟨rfl, ws, h1⟩, F1, ρ, rl.ext x1, (Po.bind g).mono fun y F2 H2 _ x2 k u ru => ?_⟩
        unfold lindexD at k
        split at k
        · rename_i hs
          split at k
          · rename_i j hj
            obtain ⟨z, h3, h4, h5⟩ := idx_some hj
            exact ⟨a1, u, y, ds, j, z, rfl, rfl, (Rp.lst (x2.h.seq h1) ((h2.same x1.s).same x2.h)).dps hs.1, ru.dps hs.2, hs.1, hs.2, h3, h4, h5, k F2 H2 (Ext.refl x2.s) _ (.int _)⟩
          · exact k.elim
        · exact k.elim
      | _ => exact g.elim⟩

/-- d.get(e, x) -/
@[simp] def xGet2 (fo fe fx : En → R PyData) : En → R PyData := fun ρ => (fo ρ).bind fun d => match d with
  | .dict es => (fe ρ).bind fun y => (fx ρ).bind fun z => if isKey y = true then .ok ((dval es y).getD z) else .bad
  | _ => .bad
theorem eGet2 {k : Nat} (hr : Room k X.A) (ho : PE X o (tS X.K c fo)) (he : PE X e (tP X.K c fe)) (hf : PE X a (tE X.K c fx)) (m : M2 X o "get" apos e a pos := by exact ⟨rfl, rfl, rfl, rfl⟩) :
    PE X (.Call (.Attribute o "get" apos) [e, a] [] pos) (tE X.K c (xGet2 fo fe fx)) :=
  pe_imp (pe_dget2 (hu_of hr) ho he hf m) fun σ H Q ⟨F, ρ, rl, q⟩ =>
    ⟨F, ρ, rl, (Po.bind q).mono fun x F1 H1 _ x1 g v rv => by
      cases x with
      | dict es =>
        obtain ⟨a1, ks, rfl, h1, h2⟩ := rv.dict x1.s
        refine ⟨a1, rfl, Or.inl ⟨ks, Rd.of h1⟩, F1, ρ, rl.ext x1, (Po.bind g).mono fun y F2 H2 _ x2 k u ru => ⟨F2, ρ, (rl.ext x1).ext x2, (Po.bind k).mono fun z F3 H3 _ x3 k3 w rw' => ?_⟩⟩
        by_cases hk : isKey y = true
        · rw [if_pos hk] at k3
          obtain ⟨kk, rfl, rfl⟩ := key_of ru hk
          refine ⟨_, DGet.k (x3.h _ _ (x2.h _ _ h1)), k3 F3 H3 (Ext.refl x3.s) _ ?_⟩
          rcases RpK.val kk h2 with ⟨v', d', e1, e2, e3⟩ | ⟨e1, e2⟩
          · rw [e1, e2]; exact (e3.same x2.f).same x3.f
          · rw [e1, e2]; exact rw'
        · rw [if_neg hk] at k3; exact k3.elim
      | _ => exact g.elim⟩
end

/-! ### slices -/
def cutD {α : Type} (xs : List α) (lo hi : Option Int) : List α := (xs.drop (HT.sIx xs.length 0 lo)).take (HT.sIx xs.length xs.length hi - HT.sIx xs.length 0 lo)
theorem RpA.cut {K : Fg} {H : Hp} {vs : List V} {ds : List PyData} (r : RpA K H vs ds) (lo hi : Option Int) : RpA K H (cutV vs lo hi) (cutD ds lo hi) := by
  show RpA K H (cutD vs lo hi) (cutD ds lo hi)
  unfold cutD
  rw [r.len]
  exact (r.drop _).take _
@[simp] def slD (x : PyData) (lo hi : Option Int) : R PyData := match x with
  | .list ds => .ok (.list (cutD ds lo hi))
  | .tuple ds => if HT.sIx ds.length 0 lo = 0 ∧ HT.sIx ds.length ds.length hi = ds.length then .bad else .ok (.tuple (cutD ds lo hi))
  | .str z => if z.length ≤ sizeLine then .ok (.str (cutS z lo hi)) else .bad
  | _ => .bad
@[simp] def slLD (x : PyData) (lo hi : Option Int) : R (List PyData) := match x with
  | .list ds => .ok (cutD ds lo hi)
  | _ => .bad
def tO (K : Fg) (c : Cc) (f : En → R (Option Int)) : TO := fun σ H Q => ∃ F ρ, Rl K c F H ρ σ ∧ Po c σ F H (f ρ) fun o _ H' => Q o H'
@[simp] def xO0 : En → R (Option Int) := fun _ => .ok none
@[simp] def xO1 (f : En → R PyData) : En → R (Option Int) := fun ρ => (f ρ).bind fun d => match d with | .int i => .ok (some i) | _ => .bad
@[simp] def xSl (f : En → R PyData) (l h : En → R (Option Int)) : En → R PyData := fun ρ => (f ρ).bind fun x => (l ρ).bind fun lo => (h ρ).bind fun hi => slD x lo hi
@[simp] def xSlL (f : En → R PyData) (l h : En → R (Option Int)) : En → R (List PyData) := fun ρ => (f ρ).bind fun x => (l ρ).bind fun lo => (h ρ).bind fun hi => slLD x lo hi
def rSlX (K : Fg) : V → Option Int → Option Int → Hp → VK → Prop := fun x lo hi H Q => rSlL K x lo hi H Q ∨ (rSlT K x lo hi H Q ∨ rSlS x lo hi H Q)
section
variable {X : Cx} {c : Cc} {e : Expr} {lo hi : Option Expr} {f fe : En → R PyData} {fl fh : En → R (Option Int)} {pos p2 : Pos}
theorem po_imp {e : Option Expr} {t t' : TO} (h : PO X e t) (m : ∀ σ H Q, t' σ H Q → t σ H Q) : PO X e t' := ⟨fun pins s σ H Q I q => h.run pins s σ H Q I (m σ H Q q)⟩
theorem o0 : PO X none (tO X.K c xO0) := po_imp po_none fun σ H Q ⟨F, ρ, r, q⟩ => q F H (Ext.refl r.s)
theorem o1 (h : PE X e (tP X.K c f)) : PO X (some e) (tO X.K c (xO1 f)) := po_imp (po_some h) fun σ H Q ⟨F, ρ, r, q⟩ =>
  ⟨F, ρ, r, (Po.bind q).mono fun d F1 H1 _ x1 g v rv => by
    cases rv with
    | int i => exact ⟨i, rfl, g F1 H1 (Ext.refl x1.s)⟩
    | non => exact g.elim
    | bl _ => exact g.elim
    | str _ => exact g.elim
    | lst _ _ => exact g.elim
    | tup _ _ => exact g.elim
    | dct _ _ => exact g.elim⟩
theorem sl_X : SlR X (rSlX X.K) := sl_list.or (sl_tup.or sl_str)
theorem eSl (he : PE X e (tS X.K c fe)) (hl : PO X lo (tO X.K c fl)) (hh : PO X hi (tO X.K c fh)) : PE X (.Subscript e (.Slice lo hi none p2) pos) (tE X.K c (xSl fe fl fh)) := pe_imp (pe_slice sl_X he hl hh) fun σ H Q ⟨F, ρ, r, q⟩ =>
  ⟨F, ρ, r, (Po.bind q).mono fun x F1 H1 _ x1 g v rv => ⟨F1, ρ, r.ext x1, (Po.bind g).mono fun l F2 H2 _ x2 g2 => ⟨F2, ρ, (r.ext x1).ext x2, (Po.bind g2).mono fun h F3 H3 _ x3 k => by
    have rv' := (rv.ext x2).ext x3
    unfold slD at k
    split at k
    · rename_i ds
      obtain ⟨a, ws, rfl, h1, h2⟩ := rv'.list x3.s
      exact Or.inl ⟨a, ws, rfl, h1, fun p hp => k _ _ (Ext.new x3.s hp) _ (.lst (.of upd_same) ((h2.cut l h).same (Ext.new x3.s hp).f))⟩
    · rename_i ds
      split at k
      · exact k.elim
      · rename_i hz
        obtain ⟨a, ws, rfl, h1, h2⟩ := rv'.tuple x3.s
        exact Or.inr (Or.inl ⟨a, ws, rfl, h1, by rw [h2.len]; exact hz, fun p hp => k _ _ (Ext.new x3.s hp) _ (.tup (.of upd_same) ((h2.cut l h).same (Ext.new x3.s hp).f))⟩)
    · split at k
      · rename_i hz
        exact Or.inr (Or.inr ⟨_, rv'.str, hz, k F3 H3 (Ext.refl x3.s) _ (.str _)⟩)
      · exact k.elim
    · exact k.elim⟩⟩⟩
theorem lSl (he : PE X e (tS X.K c fe)) (hl : PO X lo (tO X.K c fl)) (hh : PO X hi (tO X.K c fh)) : PE X (.Subscript e (.Slice lo hi none p2) pos) (tL X.K c (xSlL fe fl fh)) := pe_imp (pe_slice sl_X he hl hh) fun σ H Q ⟨F, ρ, r, q⟩ =>
  ⟨F, ρ, r, (Po.bind q).mono fun x F1 H1 _ x1 g v rv => ⟨F1, ρ, r.ext x1, (Po.bind g).mono fun l F2 H2 _ x2 g2 => ⟨F2, ρ, (r.ext x1).ext x2, (Po.bind g2).mono fun h F3 H3 _ x3 k => by
    have rv' := (rv.ext x2).ext x3
    unfold slLD at k
    split at k
    · rename_i ds
      obtain ⟨a, ws, rfl, h1, h2⟩ := rv'.list x3.s
      exact Or.inl ⟨a, ws, rfl, h1, fun p hp => k F3 _ (Ext.own x3.s hp) p _ upd_same (x3.s.free hp) (x1.h.free (x2.h.free (x3.h.free hp))) (h2.cut l h)⟩
    · exact k.elim⟩⟩⟩
end
end DL
set_option Elab.async false
set_option linter.all false
set_option maxRecDepth 100000
set_option maxHeartbeats 1000000
/-! Calls of own defs, statements. -/
namespace DL
open PySem PySem.Spec L2
/-! ### list.extend by any list that is read -/
theorem ext_meets (l b : Addr) (xs ys : Array Value) (n n2 : Nat) (od : Option Addr) (os : Array (Option Value)) (h0 : ¬(!xs.isEmpty && Builtin.List.listTooLong (xs.size + ys.size)) = true) (h1 : xs.size ≤ sizeLine) (h2 : xs.size + ys.size ≤ sizeLine + 1) :
    Meets (Builtin.«list.extend» ⟨[.ref l, .ref b], []⟩) (fun _ R s => s.heap.get? l = some { cls := .type "list", dict := none, data := .seq xs n, slots := #[] } ∧ s.heap.get? b = some { cls := .type "list", dict := od, data := .seq ys n2, slots := os } ∧
      R (.ok (.ret Value.none)) { s with heap := s.heap.update l (Obj.mapSeq fun z => z ++ ys), toks := s.toks }) := .of_wp fun prog w A R s h => by
  obtain ⟨hp, g, d, tk, os'⟩ := s
  obtain ⟨hl, hb, h⟩ := h
  have f1 := AutoSeq1.idx_int
  have f3 := AutoSeq1.sub_list_list
  have f2 := AutoSeq1.sub_tuple_tuple
  have f5 := AutoSeq1.sub_list_tuple
  have f4 := AutoSeq1.sub_tuple_list
  have hz : (xs ++ ys).size ≤ sizeLine + 1 := by rw [Array.size_append]; exact h2
  wp_walk using (wpAny_updateSeq hl rfl (hz := h1) (_hz' := hz)), AutoSeq1.wpAny_loadPart' hl, AutoSeq1.wpAny_loadPart' hb
  exact ⟨_, rfl, h⟩
def rExtL (K : Fg) : V → List V → Hp → VK → Prop := fun x vs H Q => ∃ l b xs zs, x = .ref l ∧ vs = [.ref b] ∧ H l = some (.lst xs) ∧ SqL K H b zs ∧ xs.length + zs.length ≤ sizeLine ∧ Q .non (upd H l (.lst (xs ++ zs)))
theorem mt_extL {X : Cx} : MtR X "list.extend" (rExtL X.K) := by
  intro pins s σ H x vs v us Q I rx rv ⟨l, b, xs, zs, e1, e2, hH, hB, hz, q⟩
  subst e1 e2
  cases rx
  obtain ⟨u, rfl, ru⟩ := rv.one
  cases ru
  obtain ⟨z, its, n, r, hl, e⟩ := I.lstM hH
  obtain ⟨i2, r2, ⟨o2, n2, e2, c2, _, d2⟩, _⟩ := I.list hB
  obtain ⟨k2, dd2, dt2, sl2⟩ := o2
  simp only at c2 d2
  subst c2 d2
  have l2 := r2.length
  have hsz : its.toArray.size + i2.toArray.size ≤ sizeLine := by simp only [List.size_toArray]; omega
  refine call_meets F.slot_list_extend ⟨_, e, rfl⟩ F.entry_list_extend (F.args_list_extend_2 _ _) (ext_meets l b its.toArray i2.toArray n n2 dd2 sl2 (by rw [notLongL hsz, Bool.and_false]; exact Bool.false_ne_true) (by simp only [List.size_toArray]; omega) (by omega)) ⟨e, e2, ?_⟩
  exact ⟨.non, _, I.lset (its' := its ++ i2) hH e (by simp) (r.append r2) (by simp only [List.length_append]; omega), rfl, q⟩

/-! ### what a def promises -/
/-- called with data, it comes to what F tells -/
def spD (K : Fg) (ca : Str → Value) (n : Nat) (Fn : List PyData → R PyData) : Sp := fun vs H Q E => vs.length = n ∧ ∃ F ds, Same F H ∧ RpA K F vs ds ∧ match Fn ds with
  | .ok d => ∀ F' H' v, Ext F H F' H' → Rp K F' v d → Q v H'
  | .exc m => ∀ H', Same H H' → E (ca m) none H'
  | .bad => False
theorem spD_len {K : Fg} {ca : Str → Value} {n : Nat} {Fn : List PyData → R PyData} {ps : List Str} (h : ps.length = n) : ∀ vs H Q E, spD K ca n Fn vs H Q E → vs.length = ps.length := fun _ _ _ _ q => q.1.trans h.symm
/-- the same of a weaker or equal function -/
theorem spD_eq {K : Fg} {ca : Str → Value} {n : Nat} {Fn Gn : List PyData → R PyData} (h : ∀ ds, Gn ds ≠ .bad → Fn ds = Gn ds) : ∀ vs H Q E, spD K ca n Gn vs H Q E → spD K ca n Fn vs H Q E := fun vs H Q E ⟨l, F, ds, s, r, q⟩ => by
  refine ⟨l, F, ds, s, r, ?_⟩
  rw [h ds (fun z => by rw [z] at q; exact q)]
  exact q
@[simp] def xCall (Fn : List PyData → R PyData) (g : En → R (List PyData)) : En → R PyData := fun ρ => (g ρ).bind Fn
theorem RpA.length_eq {K : Fg} {H : Hp} {vs : List V} {ds : List PyData} (r : RpA K H vs ds) : vs.length = ds.length := r.len
section
variable {X : Cx} {c : Cc} {e a b o : Expr} {es : List Expr} {f fo fe : En → R PyData} {g : En → R (List PyData)} {pos p apos : Pos} {x : Str}
theorem eCall {k n : Nat} {fa : Addr} {fd : FuncData} {ps : List Str} {Fn : List PyData → R PyData} (tk : Takes X c.W) (G : FnOk X.prog X.w X.K X.mg X.base (L2.CX X.prog X.w) k fa fd ps (spD X.K c.ca n Fn)) (hr : Room k X.A) (hn : ps.length = n)
    (hg : Gl X x) (hm : X.mg x = some (.ref fa)) (hk : PySem.W.keepIn X.K (.ref fa) = true) (hb : Binds X.K fd ps []) (ha : PA X (e :: es) (tA X.K c g)) (hl : (e :: es).length = n) (hdb : (x == ("__debug__" : Str)) = false := by decide)
    (he : starEach (e :: es) X.env = (false, eval e X.env) :: starEach es X.env := by rfl) (hpl : (backTo pos (starEach es X.env)).any (·.1) = false := by rfl) :
    PE X (.Call (.Name x p) (e :: es) [] pos) (tE X.K c (xCall (fun ds => if ds.length = n then Fn ds else .bad) g)) :=
  pe_imp (pe_callS G hr hg hm hk hb (fun σ => passAt tk σ) ha hdb he hpl) fun σ H Q ⟨F, ρ, r, q⟩ =>
    ⟨F, ρ, r, (Po.bind q).mono fun ds F1 H1 _ x1 k vs rv => by
      by_cases hz : ds.length = n
      · rw [if_pos hz] at k
        refine ⟨rv.len.trans hz, F1, ds, x1.s, rv, ?_⟩
        cases hf : Fn ds with
        | ok d => rw [hf] at k; exact fun F' H' v xe r' => k F' H' xe v r'
        | exc m => rw [hf] at k; exact fun H' sm => k F1 H' ⟨Same.refl F1, sm, x1.s.trans sm, fun _ _ e => Or.inl e⟩
        | bad => rw [hf] at k; exact k
      · rw [if_neg hz] at k; exact k.elim⟩
end
end DL
set_option Elab.async false
set_option linter.all false
set_option maxRecDepth 100000
set_option maxHeartbeats 1000000
/-! Statements, loops, comprehensions. -/
namespace DL
open PySem PySem.Spec L2
/-- what a statement comes to -/
inductive O where
  | nx (ρ : En)
  | rt (d : PyData)
  | ex (n : Str) (ρ : En)
  | bad
def Oo (K : Fg) (c : Cc) (F : Hp) (D : Ends) : O → Prop
  | .nx ρ => ∀ F' H' σ', Same F F' → Rl K c F' H' ρ σ' → D.nx σ' H'
  | .rt d => ∀ F' H' v, Ext c.F0 c.H0 F' H' → Rp K F' v d → D.rt v H'
  | .ex n ρ => ∀ F' H' σ', Rl K c F' H' ρ σ' → c.W (c.ca n) none σ' H'
  | .bad => False
theorem Oo.mono {K : Fg} {c : Cc} {F F1 : Hp} {D : Ends} {o : O} (h : Oo K c F D o) (s : Same F F1) : Oo K c F1 D o := by
  cases o with
  | nx ρ => exact fun F' H' σ' s' r => h F' H' σ' (s.trans s') r
  | rt d => exact h
  | ex n ρ => exact h
  | bad => exact h
def tZ (K : Fg) (c : Cc) (f : En → O) : TS := fun D σ H => ∃ F ρ, Rl K c F H ρ σ ∧ Oo K c F D (f ρ)
/-- first o, then g -/
@[simp] def seqO (o : O) (g : En → O) : O := match o with
  | .nx ρ => g ρ
  | .rt d => .rt d
  | .ex n ρ => .ex n ρ
  | .bad => .bad
/-- an expression's outcome in a statement -/
@[simp] def bO {α : Type} (r : R α) (ρ : En) (k : α → O) : O := match r with
  | .ok a => k a
  | .exc n => .ex n ρ
  | .bad => .bad
@[simp] theorem bO_ok {α : Type} (a : α) (ρ : En) (k : α → O) : bO (.ok a) ρ k = k a := rfl
@[simp] theorem bO_exc {α : Type} (n : Str) (ρ : En) (k : α → O) : bO (.exc n : R α) ρ k = .ex n ρ := rfl
@[simp] theorem bO_bad {α : Type} (ρ : En) (k : α → O) : bO (.bad : R α) ρ k = .bad := rfl
@[simp] theorem seqO_nx (ρ : En) (g : En → O) : seqO (.nx ρ) g = g ρ := rfl
@[simp] theorem seqO_rt (d : PyData) (g : En → O) : seqO (.rt d) g = .rt d := rfl
@[simp] theorem seqO_ex (n : Str) (ρ : En) (g : En → O) : seqO (.ex n ρ) g = .ex n ρ := rfl
@[simp] theorem seqO_bad (g : En → O) : seqO .bad g = .bad := rfl
section
variable {K : Fg} {c : Cc} {F H : Hp} {ρ : En} {σ : St} {D : Ends}
/-- from a statement's outcome to its expression's -/
theorem Oo.po {α : Type} {r : R α} {k : α → O} (rl : Rl K c F H ρ σ) (h : Oo K c F D (bO r ρ k)) : Po c σ F H r fun a F' H' => Oo K c F' D (k a) := by
  cases r with
  | ok a => exact fun F' H' x => Oo.mono h x.f
  | exc n => exact fun F' H' x => h F' H' σ (rl.ext x)
  | bad => exact h
theorem Rl.set {i : Nat} {s : Slot} {v : V} (r : Rl K c F H ρ σ) (h : SlotOk K c F H s (some (some v))) (h1 : isOwn s = true → ∀ (j : Nat) (t : Slot) (p : Addr), v = .ref p → j ≠ i → ρ[j]? = some t → isOwn t = true → σ[j]? ≠ some (some (.ref p))) : Rl K c F H (ρ.set i s) (σ.set i (some v)) := by
  refine ⟨by rw [List.length_set, List.length_set, r.len], r.e, fun j t e => ?_, fun j k t u p ej ek ot ou hj hk => ?_⟩
  · by_cases hij : i = j
    · subst hij
      by_cases hl : i < ρ.length
      · rw [List.getElem?_set_self hl] at e
        cases e
        rw [List.getElem?_set_self (by rw [← r.len]; exact hl)]
        exact h
      · rw [List.getElem?_eq_none (by rw [List.length_set]; omega)] at e
        cases e
    · rw [List.getElem?_set_ne hij] at e ⊢
      exact r.at_ j t e
  · by_cases hij : i = j
    · subst hij
      by_cases hik : i = k
      · exact hik
      · rw [List.getElem?_set_ne hik] at ek hk
        have hl : i < ρ.length := Nat.lt_of_not_le fun z => by
          rw [List.getElem?_eq_none (by rw [List.length_set]; exact z)] at ej
          cases ej
        rw [List.getElem?_set_self hl] at ej
        cases ej
        rw [List.getElem?_set_self (by rw [← r.len]; exact hl)] at hj
        cases hj
        exact absurd hk (h1 ot k u p rfl (Ne.symm hik) ek ou)
    · rw [List.getElem?_set_ne hij] at ej hj
      by_cases hik : i = k
      · subst hik
        have hl : i < ρ.length := Nat.lt_of_not_le fun z => by
          rw [List.getElem?_eq_none (by rw [List.length_set]; exact z)] at ek
          cases ek
        rw [List.getElem?_set_self hl] at ek
        cases ek
        rw [List.getElem?_set_self (by rw [← r.len]; exact hl)] at hk
        cases hk
        exact absurd hj (h1 ou j t p rfl (Ne.symm hij) ej ot)
      · rw [List.getElem?_set_ne hik] at ek hk
        exact r.one j k t u p ej ek ot ou hj hk
theorem Rl.setD {i : Nat} {d : PyData} {v : V} (r : Rl K c F H ρ σ) (h : Rp K F v d) : Rl K c F H (ρ.set i (.sh d)) (σ.set i (some v)) := r.set ⟨v, rfl, h⟩ fun z => nomatch z
/-- an owned slot's address -/
theorem Rl.ownAt (r : Rl K c F H ρ σ) {j : Nat} {t : Slot} {p : Addr} (e : ρ[j]? = some t) (o : isOwn t = true) (hj : σ[j]? = some (some (.ref p))) : ∃ u, H p = some u ∧ F p = none ∧ c.H0 p = none := by
  have h := r.at_ j t e
  cases t with
  | un => cases o
  | sh d => cases o
  | own ds =>
    obtain ⟨q, vs, e1, h1, h2, h3, _⟩ := h
    rw [hj] at e1; cases e1
    exact ⟨_, h1, h2, h3⟩
  | odc ds =>
    obtain ⟨q, vs, e1, h1, h2, h3, _⟩ := h
    rw [hj] at e1; cases e1
    exact ⟨_, h1, h2, h3⟩
  | kn => cases o
  | nw d => cases o
  | owN ds =>
    obtain ⟨q, vs, e1, h1, h2, h3, _⟩ := h
    rw [hj] at e1; cases e1
    exact ⟨_, h1, h2, h3⟩
/-- an own list or dict comes to stand still -/
@[simp] def frz (i : Nat) (ρ : En) : En := match ρ[i]? with
  | some (.own ds) => ρ.set i (.sh (.list ds))
  | some (.odc es) => ρ.set i (.sh (.dict es))
  | some (.owN ds) => ρ.set i (.sh (.list ds))
  | _ => ρ
theorem set_self {α : Type} {l : List α} {i : Nat} {x : α} (h : l[i]? = some x) : l.set i x = l := by
  obtain ⟨h1, h2⟩ := List.getElem?_eq_some_iff.mp h
  rw [← h2, List.set_getElem_self]
theorem Rl.freeze1 {i : Nat} {p : Addr} {o : HO} {t : Slot} {d : PyData} (r : Rl K c F H ρ σ) (e : ρ[i]? = some t) (ot : isOwn t = true) (hs : σ[i]? = some (some (.ref p))) (hp : H p = some o) (hF : F p = none) (h0 : c.H0 p = none) (rd : Rp K (upd F p o) (.ref p) d) :
    Rl K c (upd F p o) H (ρ.set i (.sh d)) σ := by
  have sm : Same F (upd F p o) := same_new hF
  have base : Rl K c (upd F p o) H (ρ.set i (.un)) (σ.set i (some (.ref p))) := by
    refine ⟨by rw [List.length_set, List.length_set, r.len], ⟨r.e.f.trans sm, r.e.h, Same.freeze r.s hp, fun b u e => ?_⟩, fun j u ej => ?_, fun j k u w q ej ek oj ok hj hk => ?_⟩
    · by_cases z : b = p
      · subst z; exact Or.inr h0
      · rw [upd_ne z] at e; exact r.e.n b u e
    · by_cases hij : i = j
      · subst hij
        have hl : i < ρ.length := (List.getElem?_eq_some_iff.mp e).1
        rw [List.getElem?_set_self hl] at ej
        cases ej
        trivial
      · rw [List.getElem?_set_ne hij] at ej ⊢
        have h := r.at_ j u ej
        cases u with
        | un => trivial
        | sh d =>
          obtain ⟨v, e1, r1⟩ := h
          exact ⟨v, e1, r1.same sm⟩
        | own ds =>
          obtain ⟨q, vs, e1, h1, h2, h3, r1⟩ := h
          refine ⟨q, vs, e1, h1, ?_, h3, r1.same sm⟩
          rw [upd_ne (fun z => hij (r.one i j _ _ p e ej ot rfl hs (by rw [← z]; exact e1)))]
          exact h2
        | odc ds =>
          obtain ⟨q, vs, e1, h1, h2, h3, r1⟩ := h
          refine ⟨q, vs, e1, h1, ?_, h3, r1.same sm⟩
          rw [upd_ne (fun z => hij (r.one i j _ _ p e ej ot rfl hs (by rw [← z]; exact e1)))]
          exact h2
        | kn => exact h
        | nw d =>
          obtain ⟨v, e1, r1⟩ := h
          exact ⟨v, e1, r1.same sm⟩
        | owN ds =>
          obtain ⟨q, vs, e1, h1, h2, h3, r1⟩ := h
          refine ⟨q, vs, e1, h1, ?_, h3, r1.same sm⟩
          rw [upd_ne (fun z => hij (r.one i j _ _ p e ej ot rfl hs (by rw [← z]; exact e1)))]
          exact h2
    · have nj : i ≠ j := fun z => by
        subst z
        have hl : i < ρ.length := (List.getElem?_eq_some_iff.mp e).1
        rw [List.getElem?_set_self hl] at ej
        cases ej
        cases oj
      have nk : i ≠ k := fun z => by
        subst z
        have hl : i < ρ.length := (List.getElem?_eq_some_iff.mp e).1
        rw [List.getElem?_set_self hl] at ek
        cases ek
        cases ok
      rw [List.getElem?_set_ne nj] at ej hj
      rw [List.getElem?_set_ne nk] at ek hk
      exact r.one j k u w q ej ek oj ok hj hk
  have := base.setD (i := i) rd
  rw [List.set_set, List.set_set] at this
  rw [set_self hs] at this
  exact this
theorem Rl.freeze (i : Nat) (r : Rl K c F H ρ σ) : ∃ F', Same F F' ∧ Rl K c F' H (frz i ρ) σ := by
  unfold frz
  cases e : ρ[i]? with
  | none => exact ⟨F, Same.refl F, r⟩
  | some t =>
    cases t with
    | un => exact ⟨F, Same.refl F, r⟩
    | sh d => exact ⟨F, Same.refl F, r⟩
    | own ds =>
      obtain ⟨p, vs, e1, h1, h2, h3, r1⟩ := r.at_ i _ e
      exact ⟨upd F p (.lst vs), same_new h2, r.freeze1 e rfl e1 h1 h2 h3 (.lst (.of upd_same) (r1.same (same_new h2)))⟩
    | odc ds =>
      obtain ⟨p, vs, e1, h1, h2, h3, r1⟩ := r.at_ i _ e
      exact ⟨upd F p (.dK vs), same_new h2, r.freeze1 e rfl e1 h1 h2 h3 (.dct upd_same (r1.same (same_new h2)))⟩
    | kn => exact ⟨F, Same.refl F, r⟩
    | nw d => exact ⟨F, Same.refl F, r⟩
    | owN ds =>
      obtain ⟨p, vs, e1, h1, h2, h3, r1⟩ := r.at_ i _ e
      exact ⟨upd F p (.lst vs), same_new h2, r.freeze1 e rfl e1 h1 h2 h3 (.lst (.of upd_same) (r1.rp.same (same_new h2)))⟩
end
@[simp] def yNil : En → O := fun ρ => .nx ρ
@[simp] def yCons (g h : En → O) : En → O := fun ρ => seqO (g ρ) h
@[simp] def yFrz (i : Nat) (g : En → O) : En → O := fun ρ => g (frz i ρ)
@[simp] def yRet (f : En → R PyData) : En → O := fun ρ => bO (f ρ) ρ fun d => .rt d
@[simp] def yRetN : En → O := fun _ => .rt .none
@[simp] def yIf (t : En → R Bool) (g h : En → O) : En → O := fun ρ => bO (t ρ) ρ fun z => if z = true then g ρ else h ρ
@[simp] def yExpr (f : En → R PyData) : En → O := fun ρ => bO (f ρ) ρ fun _ => .nx ρ
@[simp] def ySet (i : Nat) (f : En → R PyData) : En → O := fun ρ => bO (f ρ) ρ fun d => .nx (ρ.set i (.sh d))
@[simp] def yOwn (i : Nat) (f : En → R (List PyData)) : En → O := fun ρ => bO (f ρ) ρ fun ds => .nx (ρ.set i (.own ds))
@[simp] def yOdc (i : Nat) (f : En → R (List (PyData × PyData))) : En → O := fun ρ => bO (f ρ) ρ fun ds => .nx (ρ.set i (.odc ds))
@[simp] def yPar (i j : Nat) (g : En → R (List PyData)) : En → O := fun ρ => bO (g ρ) ρ fun ds => match ds with | [d, d'] => .nx ((ρ.set i (.sh d)).set j (.sh d')) | _ => .bad
@[simp] def yUnp (τ : PyData → En → R En) (f : En → R PyData) : En → O := fun ρ => bO (f ρ) ρ fun d => match τ d ρ with | .ok ρ' => .nx ρ' | _ => .bad
section
variable {X : Cx} {c : Cc} {st : Stmt} {rest : List Stmt} {e a b : Expr} {f fa fb : En → R PyData} {g h : En → O} {pos pos' : Pos}
theorem zNil : PSs X [] (tZ X.K c yNil) := pss_imp pss_nil fun D σ H ⟨F, ρ, r, q⟩ => q F H σ (Same.refl F) r
theorem zOne (h1 : PS X st (tZ X.K c g)) : PSs X [st] (tZ X.K c g) := pss_one h1
theorem zCons (h1 : PS X st (tZ X.K c g)) (h2 : PSs X rest (tZ X.K c h)) : PSs X (st :: rest) (tZ X.K c (yCons g h)) := pss_imp (pss_cons h1 h2) fun D σ H ⟨F, ρ, r, q⟩ => by
  refine ⟨F, ρ, r, ?_⟩
  unfold yCons at q
  cases hg : g ρ with
  | nx ρ' => rw [hg] at q; exact fun F' H' σ' s r' => ⟨F', ρ', r', q.mono s⟩
  | rt d => rw [hg] at q; exact q
  | ex n ρ' => rw [hg] at q; exact q
  | bad => rw [hg] at q; exact q
theorem zFrz (i : Nat) (h1 : PS X st (tZ X.K c g)) : PS X st (tZ X.K c (yFrz i g)) := ps_imp h1 fun D σ H ⟨F, ρ, r, q⟩ => by
  obtain ⟨F', s, r'⟩ := r.freeze i
  exact ⟨F', _, r', q.mono s⟩
theorem zRet (he : PE X e (tE X.K c f)) : PS X (.Return (some e) pos) (tZ X.K c (yRet f)) := ps_imp (ps_ret he) fun D σ H ⟨F, ρ, r, q⟩ =>
  ⟨F, ρ, r, (Oo.po r q).mono fun d F' H' _ x k v rv => k F' H' v (r.e.trans x) rv⟩
theorem zRetN : PS X (.Return none pos) (tZ X.K c yRetN) := ps_imp ps_retN fun D σ H ⟨F, ρ, r, q⟩ => q F H _ r.e .non
theorem zPass : PS X (.Pass pos) (tZ X.K c yNil) := ps_imp ps_pass fun D σ H ⟨F, ρ, r, q⟩ => q F H σ (Same.refl F) r
theorem zIf {t : En → R Bool} {a b : List Stmt} (ht : PT X e (tT X.K c t)) (ha : PSs X a (tZ X.K c g)) (hb : PSs X b (tZ X.K c h)) : PS X (.If e a b pos) (tZ X.K c (yIf t g h)) := ps_imp (ps_if ht ha hb) fun D σ H ⟨F, ρ, r, q⟩ =>
  ⟨F, ρ, r, (Oo.po r q).mono fun z F' H' _ x k => by
    cases z with
    | true => exact ⟨F', ρ, r.ext x, k⟩
    | false => exact ⟨F', ρ, r.ext x, k⟩⟩
theorem zExpr (he : PE X e (tE X.K c f)) (hs : swapsWith e none pos.line X.env = pure false := by rfl) : PS X (.Expr e pos) (tZ X.K c (yExpr f)) := ps_imp (ps_expr he hs) fun D σ H ⟨F, ρ, r, q⟩ =>
  ⟨F, ρ, r, (Oo.po r q).mono fun d F' H' _ x k v rv => k F' H' σ (Same.refl F') (r.ext x)⟩
/-- x = e -/
theorem zSet (i : Nat) {x : Str} (nd : X.N.Nodup) (he : PE X e (tE X.K c f)) (hi : X.N[i]? = some x := by rfl) (hx : Loc X.env.scope x := by first | exact Or.inl rfl | exact Or.inr rfl) (hs : swapsWith e (some (.Name x pos')) pos.line X.env = pure false := by rfl) (hf : X.fn x = true ∨ X.env.scope.names.lookup x = some .local := by exact Or.inl rfl) :
    PS X (.Assign [.Name x pos'] e pos) (tZ X.K c (ySet i f)) := ps_imp (ps_set nd hi hx he hs hf) fun D σ H ⟨F, ρ, r, q⟩ =>
  ⟨F, ρ, r, (Oo.po r q).mono fun d F' H' _ x k v rv => k F' H' _ (Same.refl F') ((r.ext x).setD rv)⟩
theorem setOwn_ok {K : Fg} {F H F' H' : Hp} {ρ : En} {σ : St} {i : Nat} {p : Addr} {vs : List V} {ds : List PyData} (r : Rl K c F H ρ σ) (x : Ext F H F' H') (h1 : H' p = some (.lst vs)) (h2 : F' p = none) (h3 : H p = none) (rv : RpA K F' vs ds) :
    Rl K c F' H' (ρ.set i (.own ds)) (σ.set i (some (.ref p))) := (r.ext x).set ⟨p, vs, rfl, h1, h2, r.e.h.free h3, rv⟩ fun _ j t q e _ ej ot hj => by
  cases e
  obtain ⟨u, hu, _⟩ := r.ownAt ej ot hj
  rw [h3] at hu; cases hu
theorem setOdc_ok {K : Fg} {F H F' H' : Hp} {ρ : En} {σ : St} {i : Nat} {p : Addr} {ks : List (Key × V)} {es : List (PyData × PyData)} (r : Rl K c F H ρ σ) (x : Ext F H F' H') (h1 : H' p = some (.dK ks)) (h2 : F' p = none) (h3 : H p = none) (rv : RpK K F' ks es) :
    Rl K c F' H' (ρ.set i (.odc es)) (σ.set i (some (.ref p))) := (r.ext x).set ⟨p, ks, rfl, h1, h2, r.e.h.free h3, rv⟩ fun _ j t q e _ ej ot hj => by
  cases e
  obtain ⟨u, hu, _⟩ := r.ownAt ej ot hj
  rw [h3] at hu; cases hu
theorem zOwn (i : Nat) {x : Str} {f : En → R (List PyData)} (nd : X.N.Nodup) (he : PE X e (tL X.K c f)) (hi : X.N[i]? = some x := by rfl) (hx : Loc X.env.scope x := by first | exact Or.inl rfl | exact Or.inr rfl) (hs : swapsWith e (some (.Name x pos')) pos.line X.env = pure false := by rfl) (hf : X.fn x = true ∨ X.env.scope.names.lookup x = some .local := by exact Or.inl rfl) :
    PS X (.Assign [.Name x pos'] e pos) (tZ X.K c (yOwn i f)) := ps_imp (ps_set nd hi hx he hs hf) fun D σ H ⟨F, ρ, r, q⟩ =>
  ⟨F, ρ, r, (Oo.po r q).mono fun d F' H' _ x k p vs h1 h2 h3 rv => k F' H' _ (Same.refl F') (setOwn_ok r x h1 h2 h3 rv)⟩
theorem zOdc (i : Nat) {x : Str} {f : En → R (List (PyData × PyData))} (nd : X.N.Nodup) (he : PE X e (tD X.K c f)) (hi : X.N[i]? = some x := by rfl) (hx : Loc X.env.scope x := by first | exact Or.inl rfl | exact Or.inr rfl) (hs : swapsWith e (some (.Name x pos')) pos.line X.env = pure false := by rfl) (hf : X.fn x = true ∨ X.env.scope.names.lookup x = some .local := by exact Or.inl rfl) :
    PS X (.Assign [.Name x pos'] e pos) (tZ X.K c (yOdc i f)) := ps_imp (ps_set nd hi hx he hs hf) fun D σ H ⟨F, ρ, r, q⟩ =>
  ⟨F, ρ, r, (Oo.po r q).mono fun d F' H' _ x k p vs h1 h2 h3 rv => k F' H' _ (Same.refl F') (setOdc_ok r x h1 h2 h3 rv)⟩
/-- a, b = e1, e2 -/
theorem zPar (i j : Nat) {x y : Str} {g : En → R (List PyData)} {px py pt : Pos} {kt k2 pt2} (hc : X.calm = true) (nd : X.N.Nodup) (ha : PA X [a, b] (tA X.K c g)) (hij : i ≠ j := by decide) (hi : X.N[i]? = some x := by rfl) (hj : X.N[j]? = some y := by rfl)
    (hx : X.env.scope.names.lookup x = some .local := by rfl) (hy : X.env.scope.names.lookup y = some .local := by rfl)
    (hw : swappedStores [.Tuple [.Name x px, .Name y py] kt pt] (.Tuple [a, b] k2 pt2) X.env = pure (some [x, y]) := by rfl)
    (hs : swapsWithSole [.Tuple [.Name x px, .Name y py] kt pt] (.Tuple [a, b] k2 pt2) pos.line X.env = pure false := by rfl) :
    PS X (.Assign [.Tuple [.Name x px, .Name y py] kt pt] (.Tuple [a, b] k2 pt2) pos) (tZ X.K c (yPar i j g)) :=
  ps_imp (ps_par hc nd hi hj hij hx hy ha hw hs) fun D σ H ⟨F, ρ, r, q⟩ =>
    ⟨F, ρ, r, (Oo.po r q).mono fun ds F' H' _ x k vs rv => by
      cases rv with
      | nil => exact k.elim
      | cons r1 t =>
        cases t with
        | nil => exact k.elim
        | cons r2 t =>
          cases t with
          | nil => exact ⟨_, _, rfl, k F' H' _ (Same.refl F') (((r.ext x).setD r1).setD r2)⟩
          | cons _ _ => exact k.elim⟩
end

/-! ### targets -/
def tG (K : Fg) (c : Cc) (τ : PyData → En → R En) : TG := fun v σ H Q => ∃ F ρ d, Rl K c F H ρ σ ∧ Rp K F v d ∧ match τ d ρ with
  | .ok ρ' => ∀ σ', Rl K c F H ρ' σ' → wipe σ' [] = σ' → Q σ' H
  | _ => False
@[simp] def setA (ρ : En) : List Nat → List PyData → En
  | i :: is, d :: ds => setA (ρ.set i (.sh d)) is ds
  | _, _ => ρ
def setV (σ : St) : List Nat → List V → St
  | i :: is, v :: vs => setV (σ.set i (some v)) is vs
  | _, _ => σ
theorem Rl.setA {K : Fg} {c : Cc} {F H : Hp} : ∀ {is : List Nat} {ρ : En} {σ : St} {vs : List V} {ds : List PyData}, Rl K c F H ρ σ → RpA K F vs ds → Rl K c F H (DL.setA ρ is ds) (setV σ is vs)
  | [], _, _, _, _, r, _ => r
  | _ :: _, _, _, _, _, r, .nil => r
  | i :: is, _, _, _, _, r, .cons q t => Rl.setA (is := is) (r.setD q) t
def gN : List Nat → TGs
  | [] => gNil
  | i :: r => gCons (gName i) (gN r)
theorem gN_ok : ∀ {is : List Nat} {vs : List V} {σ : St} {H : Hp} {Q : St → Hp → Prop}, vs.length = is.length → Q (setV σ is vs) H → gN is vs σ H Q
  | [], [], _, _, _, _, q => ⟨rfl, q⟩
  | i :: is, v :: vs, σ, H, Q, h, q => ⟨v, vs, rfl, gN_ok (is := is) (by simpa using h) q⟩
@[simp] def tgName (i : Nat) : PyData → En → R En := fun d ρ => .ok (ρ.set i (.sh d))
@[simp] def tgTup (is : List Nat) : PyData → En → R En := fun d ρ => match d with
  | .tuple ds => if ds.length = is.length then .ok (setA ρ is ds) else .bad
  | .list ds => if ds.length = is.length then .ok (setA ρ is ds) else .bad
  | _ => .bad
/-- a target: what it does to the names, by values and by data -/
structure Tgt (K : Fg) (g : TG) (τ : PyData → En → R En) (is : List Nat) : Prop where
  ok : ∀ (c : Cc) (F H : Hp) (ρ ρ' : En) (σ : St) (v : V) (d : PyData) (Q : St → Hp → Prop), Rl K c F H ρ σ → Rp K F v d → τ d ρ = .ok ρ' → (∀ σ', Rl K c F H ρ' σ' → (∀ vs, (∀ i ∈ is, i ∈ vs) → wipe σ' vs = wipe σ vs) → Q σ' H) → g v σ H Q
theorem wipe_get (σ : St) : ∀ (vs : List Nat) (j : Nat), (wipe σ vs)[j]? = if j ∈ vs ∧ j < σ.length then some none else σ[j]?
  | [], j => by simp [wipe]
  | v :: vs, j => by
    unfold wipe
    by_cases h : v = j
    · subst h
      by_cases hl : v < σ.length
      · rw [List.getElem?_set_self (by rw [wipe_length]; exact hl)]
        simp [hl]
      · rw [List.getElem?_eq_none (by rw [List.length_set, wipe_length]; omega), List.getElem?_eq_none (by omega)]
        simp [hl]
    · rw [List.getElem?_set_ne h, wipe_get σ vs j]
      have : j ∈ v :: vs ↔ j ∈ vs := by simp [Ne.symm h]
      simp only [this]
theorem wipe_set {σ : St} {i : Nat} {x : Option V} {vs : List Nat} (h : i ∈ vs) : wipe (σ.set i x) vs = wipe σ vs := by
  apply List.ext_getElem?
  intro j
  rw [wipe_get, wipe_get, List.length_set]
  by_cases hj : j ∈ vs ∧ j < σ.length
  · rw [if_pos hj, if_pos hj]
  · rw [if_neg hj, if_neg hj]
    by_cases hij : i = j
    · subst hij
      have : ¬ i < σ.length := fun z => hj ⟨h, z⟩
      rw [List.getElem?_eq_none (by rw [List.length_set]; omega), List.getElem?_eq_none (by omega)]
    · rw [List.getElem?_set_ne hij]
theorem wipe_setV {vs : List Nat} : ∀ {is : List Nat} {σ : St} {ws : List V}, (∀ i ∈ is, i ∈ vs) → wipe (setV σ is ws) vs = wipe σ vs
  | [], _, _, _ => rfl
  | _ :: _, _, [], _ => rfl
  | i :: is, σ, w :: ws, h => by
    show wipe (setV (σ.set i (some w)) is ws) vs = _
    rw [wipe_setV (fun j hj => h j (List.mem_cons_of_mem _ hj)), wipe_set (h i List.mem_cons_self)]
theorem tgt_name (K : Fg) (i : Nat) : Tgt K (gName i) (tgName i) [i] := ⟨fun c F H ρ ρ' σ v d Q r rv e q => by
  cases e
  exact q _ (r.setD rv) fun vs h => wipe_set (h i (by simp))⟩
def gT2 (K : Fg) (n : Nat) (t : TGs) : TG := fun v σ H Q => gTup K n t v σ H Q ∨ gLst K n t v σ H Q
theorem tgt_tup (K : Fg) (is : List Nat) {n : Nat} (hn : n = is.length) : Tgt K (gT2 K n (gN is)) (tgTup is) is := ⟨fun c F H ρ ρ' σ v d Q r rv e q => by
  subst hn
  unfold tgTup at e
  split at e
  · split at e
    · rename_i ds hl
      cases e
      cases rv with
      | tup h r1 => exact Or.inl ⟨_, _, rfl, sqT_same r.s h, r1.len.trans hl, gN_ok (r1.len.trans hl) (q _ (r.setA r1) fun vs hv => wipe_setV hv)⟩
    · cases e
  · split at e
    · rename_i ds hl
      cases e
      cases rv with
      | lst h r1 => exact Or.inr ⟨_, _, rfl, r.s.seq h, r1.len.trans hl, gN_ok (r1.len.trans hl) (q _ (r.setA r1) fun vs hv => wipe_setV hv)⟩
    · cases e
  · cases e⟩
section
variable {X : Cx} {e : Expr} {es : List Expr} {pos : Pos}
theorem pg_or {tg : Expr} {t u : TG} (h1 : PG X tg t) (h2 : PG X tg u) : PG X tg (fun v σ H Q => t v σ H Q ∨ u v σ H Q) := ⟨fun pins s σ H v w Q I r q => by
  rcases q with q | q
  · exact h1.run pins s σ H v w Q I r q
  · exact h2.run pins s σ H v w Q I r q⟩
theorem gsNil : PGs X [] (gN []) := pgs_nil
theorem gsCons {i : Nat} {is : List Nat} (h : PG X e (gName i)) (hr : PGs X es (gN is)) (hs : (assignEach (e :: es) X.env).map (·.2) = assign e X.env :: (assignEach es X.env).map (·.2) := by rfl) : PGs X (e :: es) (gN (i :: is)) := pgs_cons h hr hs
theorem gName' (i : Nat) {x : Str} (nd : X.N.Nodup) (hi : X.N[i]? = some x := by rfl) (hx : Loc X.env.scope x := by first | exact Or.inl rfl | exact Or.inr rfl) (hf : X.fn x = true ∨ X.env.scope.names.lookup x = some .local := by first | exact Or.inl rfl | exact Or.inr rfl) : PG X (.Name x pos) (gName i) := pg_name nd hi hx hf
theorem gT2' {is : List Nat} {n k : Nat} (hc : X.calm = true) (h : PGs X es (gN is)) (hn : (assignEach es X.env).length = n := by rfl) (hst : (assignEach es X.env).findIdx? (·.1) = none := by rfl) : PG X (.Tuple es k pos) (gT2 X.K n (gN is)) := pg_or (pg_tup hc h hn hst) (pg_lst hc h hn hst)
end
/-- a, b, .. = e -/
theorem zUnp {X : Cx} {c : Cc} {tg e : Expr} {f : En → R PyData} {g : TG} {τ : PyData → En → R En} {is : List Nat} {pos : Pos} (he : PE X e (tE X.K c f)) (hg : PG X tg g) (T : Tgt X.K g τ is) (hs : swapsWithSole [tg] e pos.line X.env = pure false := by rfl) (hw : swappedStores [tg] e X.env = pure none := by rfl)
    (h1 : (assignEach [tg] X.env).map (·.2) = [assign tg X.env] := by rfl) : PS X (.Assign [tg] e pos) (tZ X.K c (yUnp τ f)) := ps_imp (ps_asg he hg hs hw h1) fun D σ H ⟨F, ρ, r, q⟩ =>
  ⟨F, ρ, r, (Oo.po r q).mono fun d F' H' _ x k v rv => by
    cases ht : τ d ρ with
    | ok ρ' => rw [ht] at k; exact T.ok c F' H' ρ ρ' σ v d _ (r.ext x) rv ht fun σ' r' _ => k F' H' σ' (Same.refl F') r'
    | exc n => rw [ht] at k; exact k.elim
    | bad => rw [ht] at k; exact k.elim⟩
end DL
set_option Elab.async false
set_option linter.all false
set_option maxRecDepth 100000
set_option maxHeartbeats 1000000
/-! Stores into lists and dicts of one's own, loops, comprehensions, raise, defs. -/
namespace DL
open PySem PySem.Spec L2
section
variable {K : Fg} {c : Cc} {F H : Hp} {ρ : En} {σ : St} {D : Ends}
theorem Rl.mut {i : Nat} {p : Addr} {o : HO} {t t' : Slot} (r : Rl K c F H ρ σ) (e : ρ[i]? = some t) (ot : isOwn t = true) (hs : σ[i]? = some (some (.ref p))) (ot' : isOwn t' = true) (h : SlotOk K c F (upd H p o) t' (some (some (.ref p)))) :
    Rl K c F (upd H p o) (ρ.set i t') σ := by
  obtain ⟨u, hu, hF, h0⟩ := r.ownAt e ot hs
  have hl : i < ρ.length := (List.getElem?_eq_some_iff.mp e).1
  refine ⟨by rw [List.length_set, r.len], ⟨r.e.f, fun b x q => ?_, fun b x q => ?_, r.e.n⟩, fun j s ej => ?_, fun j k s u w ej ek oj ok hj hk => ?_⟩
  · rw [upd_ne (ne_of_none q h0)]; exact r.e.h b x q
  · rw [upd_ne (ne_of_none q hF)]; exact r.s b x q
  · by_cases hij : i = j
    · subst hij
      rw [List.getElem?_set_self hl] at ej
      cases ej
      rw [hs]
      exact h
    · rw [List.getElem?_set_ne hij] at ej
      have q := r.at_ j s ej
      cases s with
      | un => trivial
      | sh d => exact q
      | own ds =>
        obtain ⟨w, vs, e1, h1, h2, h3, r1⟩ := q
        exact ⟨w, vs, e1, by rw [upd_ne (fun z => hij (r.one i j _ _ p e ej ot rfl hs (by rw [← z]; exact e1)))]; exact h1, h2, h3, r1⟩
      | odc ds =>
        obtain ⟨w, vs, e1, h1, h2, h3, r1⟩ := q
        exact ⟨w, vs, e1, by rw [upd_ne (fun z => hij (r.one i j _ _ p e ej ot rfl hs (by rw [← z]; exact e1)))]; exact h1, h2, h3, r1⟩
      | kn => exact q
      | nw d => exact q
      | owN ds =>
        obtain ⟨w, vs, e1, h1, h2, h3, r1⟩ := q
        exact ⟨w, vs, e1, by rw [upd_ne (fun z => hij (r.one i j _ _ p e ej ot rfl hs (by rw [← z]; exact e1)))]; exact h1, h2, h3, r1⟩
  · have own : ∀ (m : Nat) (y : Slot), (ρ.set i t')[m]? = some y → isOwn y = true → ∃ z, ρ[m]? = some z ∧ isOwn z = true := fun m y em oy => by
      by_cases him : i = m
      · subst him; exact ⟨t, e, ot⟩
      · rw [List.getElem?_set_ne him] at em; exact ⟨y, em, oy⟩
    obtain ⟨s1, a1, b1⟩ := own j s ej oj
    obtain ⟨s2, a2, b2⟩ := own k u ek ok
    exact r.one j k s1 s2 w a1 a2 b1 b2 hj hk
end
def putD (es : List (PyData × PyData)) (k d : PyData) : List (PyData × PyData) :=
  if (es.any fun p => PyData.eqv p.1 k) = true then es.map (fun p => if PyData.eqv p.1 k = true then (p.1, d) else p) else es ++ [(k, d)]
theorem RpK.any {K : Fg} {H : Hp} (k : Key) : ∀ {ks : List (Key × V)} {es : List (PyData × PyData)}, RpK K H ks es → (es.any fun p => PyData.eqv p.1 (kD k)) = ks.any fun p => decide (p.1 = k)
  | _, _, .nil => rfl
  | _, _, .cons _ t => by rw [List.any_cons, List.any_cons, RpK.any k t, kD_eqv]
theorem RpK.rep {K : Fg} {H : Hp} {k : Key} {v : V} {d : PyData} (q : Rp K H v d) : ∀ {ks : List (Key × V)} {es : List (PyData × PyData)}, RpK K H ks es → RpK K H (ks.map fun p => if p.1 = k then (p.1, v) else p) (es.map fun p => if PyData.eqv p.1 (kD k) = true then (p.1, d) else p)
  | _, _, .nil => .nil
  | _, _, .cons (k := j) r t => by
    rw [List.map_cons, List.map_cons, kD_eqv]
    by_cases h : j = k
    · subst h
      simp only [if_true, decide_true]
      exact .cons q (RpK.rep q t)
    · simp only [h, if_false, decide_false, Bool.false_eq_true]
      exact .cons r (RpK.rep q t)
theorem RpK.app {K : Fg} {H : Hp} {k : Key} {v : V} {d : PyData} (q : Rp K H v d) : ∀ {ks : List (Key × V)} {es : List (PyData × PyData)}, RpK K H ks es → RpK K H (ks ++ [(k, v)]) (es ++ [(kD k, d)])
  | _, _, .nil => .cons q .nil
  | _, _, .cons r t => .cons r (RpK.app q t)
theorem RpK.put {K : Fg} {H : Hp} {k : Key} {v : V} {d : PyData} (q : Rp K H v d) {ks : List (Key × V)} {es : List (PyData × PyData)} (r : RpK K H ks es) : RpK K H (putK ks k v) (putD es (kD k) d) := by
  unfold putK putD
  rw [r.any k]
  split
  · exact r.rep q
  · exact r.app q
@[simp] def ownL (i : Nat) (ρ : En) (k : List PyData → O) : O := match ρ[i]? with
  | some (.own ds) => k ds
  | _ => .bad
@[simp] def ownD (i : Nat) (ρ : En) (k : List (PyData × PyData) → O) : O := match ρ[i]? with
  | some (.odc es) => k es
  | _ => .bad
@[simp] def yPutL (i : Nat) (fi fe : En → R PyData) : En → O := fun ρ => ownL i ρ fun ds => bO (fe ρ) ρ fun d => bO (fi ρ) ρ fun j => match j with
  | .int k => (match ixN ds.length k with
    | some m => .nx (ρ.set i (.own (ds.set m d)))
    | none => .bad)
  | _ => .bad
@[simp] def yPutD (i : Nat) (fi fe : En → R PyData) : En → O := fun ρ => ownD i ρ fun es => bO (fe ρ) ρ fun d => bO (fi ρ) ρ fun k => if isKey k = true ∧ es.length < sizeLine then .nx (ρ.set i (.odc (putD es k d))) else .bad
@[simp] def yApp (i : Nat) (fe : En → R PyData) : En → O := fun ρ => ownL i ρ fun ds => bO (fe ρ) ρ fun d => if ds.length < sizeLine then .nx (ρ.set i (.own (ds ++ [d]))) else .bad
@[simp] def yExt (i : Nat) (fe : En → R PyData) : En → O := fun ρ => ownL i ρ fun ds => bO (fe ρ) ρ fun d => match d with
  | .list es => if ds.length + es.length ≤ sizeLine then .nx (ρ.set i (.own (ds ++ es))) else .bad
  | _ => .bad
@[simp] def yRev (i : Nat) : En → O := fun ρ => ownL i ρ fun ds => .nx (ρ.set i (.own ds.reverse))
def yClr (i : Nat) : En → O := fun ρ => ownL i ρ fun _ => .nx (ρ.set i (.own []))
theorem ownL_at {K : Fg} {c : Cc} {F H : Hp} {D : Ends} {i : Nat} {ρ : En} {σ : St} {k : List PyData → O} (r : Rl K c F H ρ σ) (q : Oo K c F D (ownL i ρ k)) :
    ∃ ds p vs, ρ[i]? = some (.own ds) ∧ σ[i]? = some (some (.ref p)) ∧ H p = some (.lst vs) ∧ F p = none ∧ c.H0 p = none ∧ RpA K F vs ds ∧ Oo K c F D (k ds) := by
  unfold ownL at q
  split at q
  · rename_i ds e
    obtain ⟨p, vs, h1, h2, h3, h4, h5⟩ := r.at_ i _ e
    exact ⟨ds, p, vs, e, h1, h2, h3, h4, h5, q⟩
  · exact q.elim
theorem ownD_at {K : Fg} {c : Cc} {F H : Hp} {D : Ends} {i : Nat} {ρ : En} {σ : St} {k : List (PyData × PyData) → O} (r : Rl K c F H ρ σ) (q : Oo K c F D (ownD i ρ k)) :
    ∃ es p ks, ρ[i]? = some (.odc es) ∧ σ[i]? = some (some (.ref p)) ∧ H p = some (.dK ks) ∧ F p = none ∧ c.H0 p = none ∧ RpK K F ks es ∧ Oo K c F D (k es) := by
  unfold ownD at q
  split at q
  · rename_i ds e
    obtain ⟨p, vs, h1, h2, h3, h4, h5⟩ := r.at_ i _ e
    exact ⟨ds, p, vs, e, h1, h2, h3, h4, h5, q⟩
  · exact q.elim
section
variable {X : Cx} {c : Cc} {st : Stmt} {rest : List Stmt} {e a b o : Expr} {f fi fe : En → R PyData} {g h : En → O} {pos pos' apos cpos px p2 : Pos} {x : Str}
theorem zPutL (i : Nat) (hx : PE X b (tP X.K c fi)) (he : PE X e (tE X.K c fe)) (hi : X.N[i]? = some x := by rfl) (hv : Vis X.env.scope x := by first | exact Or.inl rfl | exact Or.inr (Or.inl rfl) | exact Or.inr (Or.inr rfl)) (hd : (x == ("__debug__" : Str)) = false := by decide)
    (hcd : (x == ("__classdict__" : Str)) = false := by decide) (ha : ∀ v, assign (.Subscript (.Name x px) b pos') X.env v = (do
      let ov ← holding [v] (eval (.Name x px) X.env)
      let iv ← holding [v, ov] (eval b X.env)
      standAt pos'
      holding [v, ov, iv] (setItem ov iv v)
      release [v, ov, iv] []) := by intro _; rfl) (hs : swapsWithSole [.Subscript (.Name x px) b pos'] e pos.line X.env = pure false := by rfl) (hw : swappedStores [.Subscript (.Name x px) b pos'] e X.env = pure none := by rfl)
    (h1 : (assignEach [.Subscript (.Name x px) b pos'] X.env).map (·.2) = [assign (.Subscript (.Name x px) b pos') X.env] := by rfl) :
    PS X (.Assign [.Subscript (.Name x px) b pos'] e pos) (tZ X.K c (yPutL i fi fe)) := ps_imp (ps_asg he (pg_sub (pe_var hi hv hd hcd) hx set_list ha) hs hw h1) fun D σ H ⟨F, ρ, r, q⟩ => by
  obtain ⟨ds, p, vs, ei, es, hp, fp, h0, rv, q⟩ := ownL_at r q
  refine ⟨F, ρ, r, (Oo.po r q).mono fun d F1 H1 _ x1 k v rd => ⟨.ref p, es, F1, ρ, r.ext x1, (Oo.po (r.ext x1) k).mono fun j F2 H2 _ x2 k2 u ru => ?_⟩⟩
  cases ru with
  | int n =>
    dsimp only at k2
    split at k2
    · rename_i m hm
      have r2 := (r.ext x1).ext x2
      have rv2 := (rv.same x1.f).same x2.f
      have hp2 := x2.h _ _ (x1.h _ _ hp)
      have fp2 : F2 p = none := (x1.trans x2).own_none hp fp
      refine ⟨p, vs, n, m, rfl, rfl, hp2, by rw [rv.len]; exact hm, ?_⟩
      exact k2 F2 _ σ (Same.refl F2) (r2.mut ei rfl es rfl ⟨p, _, rfl, upd_same, fp2, h0, rv2.set (rd.same x2.f) m⟩)
    · exact k2.elim
  | non => exact k2.elim
  | bl _ => exact k2.elim
  | str _ => exact k2.elim
  | lst _ _ => exact k2.elim
  | tup _ _ => exact k2.elim
  | dct _ _ => exact k2.elim
theorem zPutD {lv : Nat} (i : Nat) (hr : Room lv X.A) (hx : PE X b (tP X.K c fi)) (he : PE X e (tE X.K c fe)) (hi : X.N[i]? = some x := by rfl) (hv : Vis X.env.scope x := by first | exact Or.inl rfl | exact Or.inr (Or.inl rfl) | exact Or.inr (Or.inr rfl)) (hd : (x == ("__debug__" : Str)) = false := by decide)
    (hcd : (x == ("__classdict__" : Str)) = false := by decide) (hs : swapsWith e (some (.Subscript (.Name x px) b pos')) pos.line X.env = pure false := by rfl) :
    PS X (.Assign [.Subscript (.Name x px) b pos'] e pos) (tZ X.K c (yPutD i fi fe)) := ps_imp (ps_dput (hu_of hr) (pe_var hi hv hd hcd) hx he hs) fun D σ H ⟨F, ρ, r, q⟩ => by
  obtain ⟨ds, p, vs, ei, es, hp, fp, h0, rv, q⟩ := ownD_at r q
  refine ⟨F, ρ, r, (Oo.po r q).mono fun d F1 H1 _ x1 k v rd => ⟨.ref p, es, F1, ρ, r.ext x1, (Oo.po (r.ext x1) k).mono fun j F2 H2 _ x2 k2 u ru => ?_⟩⟩
  split at k2
  · rename_i hk
    obtain ⟨kk, rfl, rfl⟩ := key_of ru hk.1
    have r2 := (r.ext x1).ext x2
    have rv2 := (rv.same x1.f).same x2.f
    have hp2 := x2.h _ _ (x1.h _ _ hp)
    have fp2 : F2 p = none := (x1.trans x2).own_none hp fp
    refine ⟨p, _, rfl, DPut.k hp2 (by rw [rv.len]; exact hk.2), ?_⟩
    exact k2 F2 _ σ (Same.refl F2) (r2.mut ei rfl es rfl ⟨p, _, rfl, upd_same, fp2, h0, rv2.put (rd.same x2.f)⟩)
  · exact k2.elim
/-- x.append(e) -/
theorem zApp (i : Nat) (he : PE X e (tE X.K c fe)) (hi : X.N[i]? = some x := by rfl) (hv : Vis X.env.scope x := by first | exact Or.inl rfl | exact Or.inr (Or.inl rfl) | exact Or.inr (Or.inr rfl)) (hd : (x == ("__debug__" : Str)) = false := by decide)
    (hcd : (x == ("__classdict__" : Str)) = false := by decide) (hbase : attributeBase (.Name x px) "append" X.env (eval (.Name x px) X.env) = eval (.Name x px) X.env := by rfl)
    (hfew : ((backTo cpos (starEach [e] X.env)).all (fun x => !x.1) && (backToKw cpos (keywordEach [] X.env)).all (fun x => x.1.isSome)
      && decide (([e] : List Expr).length + ([] : List Keyword).length + (if ([] : List Keyword).isEmpty then 0 else 1) < 30)) = true := by rfl)
    (hline : (apos.endLine == cpos.line) = true := by rfl) (hst : starEach [e] X.env = (false, eval e X.env) :: starEach [] X.env := by rfl) (hplain : (backTo cpos (starEach [] X.env)).any (·.1) = false := by rfl)
    (hs : swapsWith (.Call (.Attribute (.Name x px) "append" apos) [e] [] cpos) none pos.line X.env = pure false := by rfl) :
    PS X (.Expr (.Call (.Attribute (.Name x px) "append" apos) [e] [] cpos) pos) (tZ X.K c (yApp i fe)) :=
  ps_imp (ps_expr (pe_bm PySem.F.plainAttrs_list PySem.F.slot_list_append PySem.F.type_list_append mt_append (pe_var hi hv hd hcd) (pa_cons he pa_nil hst) hbase hfew hline hst hplain) hs) fun D σ H ⟨F, ρ, r, q⟩ => by
  obtain ⟨ds, p, vs, ei, es, hp, fp, h0, rv, q⟩ := ownL_at r q
  refine ⟨.ref p, es, Or.inl ⟨rfl, vs, .of hp⟩, F, ρ, r, (Oo.po r q).mono fun d F1 H1 _ x1 k v rd => ?_⟩
  split at k
  · rename_i hz
    have hp1 := x1.h _ _ hp
    exact ⟨p, vs, v, rfl, rfl, hp1, by rw [rv.len]; exact hz, k F1 _ σ (Same.refl F1) ((r.ext x1).mut ei rfl es rfl ⟨p, _, rfl, upd_same, x1.own_none hp fp, h0, (rv.same x1.f).app (.cons rd .nil)⟩)⟩
  · exact k.elim
/-- x.extend(e) -/
theorem zExt (i : Nat) (he : PE X e (tS X.K c fe)) (hi : X.N[i]? = some x := by rfl) (hv : Vis X.env.scope x := by first | exact Or.inl rfl | exact Or.inr (Or.inl rfl) | exact Or.inr (Or.inr rfl)) (hd : (x == ("__debug__" : Str)) = false := by decide)
    (hcd : (x == ("__classdict__" : Str)) = false := by decide) (hbase : attributeBase (.Name x px) "extend" X.env (eval (.Name x px) X.env) = eval (.Name x px) X.env := by rfl)
    (hfew : ((backTo cpos (starEach [e] X.env)).all (fun x => !x.1) && (backToKw cpos (keywordEach [] X.env)).all (fun x => x.1.isSome)
      && decide (([e] : List Expr).length + ([] : List Keyword).length + (if ([] : List Keyword).isEmpty then 0 else 1) < 30)) = true := by rfl)
    (hline : (apos.endLine == cpos.line) = true := by rfl) (hst : starEach [e] X.env = (false, eval e X.env) :: starEach [] X.env := by rfl) (hplain : (backTo cpos (starEach [] X.env)).any (·.1) = false := by rfl)
    (hs : swapsWith (.Call (.Attribute (.Name x px) "extend" apos) [e] [] cpos) none pos.line X.env = pure false := by rfl) :
    PS X (.Expr (.Call (.Attribute (.Name x px) "extend" apos) [e] [] cpos) pos) (tZ X.K c (yExt i fe)) :=
  ps_imp (ps_expr (pe_bm PySem.F.plainAttrs_list PySem.F.slot_list_extend PySem.F.type_list_extend mt_extL (pe_var hi hv hd hcd) (pa_cons he pa_nil hst) hbase hfew hline hst hplain) hs) fun D σ H ⟨F, ρ, r, q⟩ => by
  obtain ⟨ds, p, vs, ei, es, hp, fp, h0, rv, q⟩ := ownL_at r q
  refine ⟨.ref p, es, Or.inl ⟨rfl, vs, .of hp⟩, F, ρ, r, (Oo.po r q).mono fun d F1 H1 _ x1 k v rd => ?_⟩
  cases d with
  | list zs =>
    dsimp only at k
    split at k
    · rename_i hz
      obtain ⟨b, ws, rfl, hb, rw'⟩ := rd.list x1.s
      have hp1 := x1.h _ _ hp
      exact ⟨p, b, vs, ws, rfl, rfl, hp1, hb, by rw [rv.len, rw'.len]; exact hz, k F1 _ σ (Same.refl F1) ((r.ext x1).mut ei rfl es rfl ⟨p, _, rfl, upd_same, x1.own_none hp fp, h0, (rv.same x1.f).app rw'⟩)⟩
    · exact k.elim
  | _ => exact k.elim
theorem zRev (i : Nat) (hi : X.N[i]? = some x := by rfl) (hv : Vis X.env.scope x := by first | exact Or.inl rfl | exact Or.inr (Or.inl rfl) | exact Or.inr (Or.inr rfl)) (hd : (x == ("__debug__" : Str)) = false := by decide)
    (hcd : (x == ("__classdict__" : Str)) = false := by decide) (hbase : attributeBase (.Name x px) "reverse" X.env (eval (.Name x px) X.env) = eval (.Name x px) X.env := by rfl) (hline : (apos.endLine == cpos.line) = true := by rfl)
    (hs : swapsWith (.Call (.Attribute (.Name x px) "reverse" apos) [] [] cpos) none pos.line X.env = pure false := by rfl) :
    PS X (.Expr (.Call (.Attribute (.Name x px) "reverse" apos) [] [] cpos) pos) (tZ X.K c (yRev i)) :=
  ps_imp (ps_expr (pe_bm0 PySem.F.plainAttrs_list PySem.F.slot_list_reverse PySem.F.type_list_reverse mt_reverse (pe_var hi hv hd hcd) hbase hline) hs) fun D σ H ⟨F, ρ, r, q⟩ => by
  obtain ⟨ds, p, vs, ei, es, hp, fp, h0, rv, q⟩ := ownL_at r q
  exact ⟨.ref p, es, Or.inl ⟨rfl, vs, .of hp⟩, p, vs, rfl, rfl, hp, q F _ σ (Same.refl F) (r.mut ei rfl es rfl ⟨p, _, rfl, upd_same, fp, h0, rv.rev⟩)⟩
end

/-! ### raise -/
/-- an own class of the module whose instances are raised with a text -/
structure ExK (K : Fg) (mg : Str → Option Value) (ca : Str → Value) (x : Str) : Prop where
  ex : ∃ C : Addr, mg x = some (.ref C) ∧ ca x = .ref C ∧ PySem.W.excIn K C [.type "ValueError", .type "Exception", .type "BaseException", .type "object"] "ValueError.__new__" = true ∧ PySem.W.keepIn K (.ref C) = true ∧
    PySem.W.subIn K (.ref C) (.type "BaseException") = some true ∧ PySem.W.typeIn K (.ref C) = some (.type "type")
@[simp] def yRaise (x : Str) : En → O := fun ρ => .ex x ρ
theorem zRaise {X : Cx} {c : Cc} {x m : Str} {j : Nat} {p p2 p3 pos : Pos} (hc : X.calm = true) (tk : Takes X c.W) (E : ExK X.K X.mg c.ca x) (hg : Gl X x) (hdb : (x == ("__debug__" : Str)) = false := by decide) :
    PS X (.Raise (some (.Call (.Name x p) [.Constant (.str m) j p2] [] p3)) none pos) (tZ X.K c (yRaise x)) := by
  obtain ⟨C, gC, eC, xC, kC, bC, tC⟩ := E.ex
  exact ps_imp (ps_raise hc tk (pmk_own PySem.F.excBase_ValueError xC gC kC (raises_own bC tC) hg hdb)) fun D σ H ⟨F, ρ, r, q⟩ => by
    have := q F H σ r
    rw [eC] at this
    exact this
end DL
set_option Elab.async false
set_option linter.all false
set_option maxRecDepth 100000
set_option maxHeartbeats 1000000
/-! What a loop goes over; for, while, list comprehensions; defs. -/
namespace DL
open PySem PySem.Spec L2
/-- the iterator J hands out ds -/
structure ItOk (K : Fg) (F : Hp) (J : It) (ds : List PyData) : Prop where
  stop : ∀ F2 H2, Same F F2 → Same F2 H2 → J.stop ds.length H2
  item : ∀ i d F2 H2, ds[i]? = some d → Same F F2 → Same F2 H2 → J.go i H2 ∧ ∀ x H3, J.yld i H2 x H3 → ∃ F3, Ext F2 H2 F3 H3 ∧ Rp K F3 x d
def tIt (K : Fg) (c : Cc) (f : En → R (List PyData)) : TI := fun σ H Z => ∃ F ρ, Rl K c F H ρ σ ∧ Po c σ F H (f ρ) fun ds F' H' => ∀ J, ItOk K F' J ds → Z J H'
theorem pi_imp {X : Cx} {tg e : Expr} {t t' : TI} (h : PI X tg e t) (m : ∀ σ H Q, t' σ H Q → t σ H Q) : PI X tg e t' := ⟨fun pins s σ H Q I q => h.run pins s σ H Q I (m σ H Q q)⟩
theorem pi_or {X : Cx} {tg e : Expr} {t u : TI} (h1 : PI X tg e t) (h2 : PI X tg e u) : PI X tg e (fun σ H Q => t σ H Q ∨ u σ H Q) := ⟨fun pins s σ H Q I q => by
  rcases q with q | q
  · exact h1.run pins s σ H Q I q
  · exact h2.run pins s σ H Q I q⟩
theorem rd_inj {F : Hp} {a : Addr} {vs ws : List V} (h1 : Rd F a (.lst vs)) (h2 : Rd F a (.lst ws)) : vs = ws := by
  rcases h1 with h1 | ⟨o, h1⟩ <;> rcases h2 with h2 | ⟨o', h2⟩ <;> rw [h1] at h2 <;> cases h2 <;> rfl
@[simp] def xItems (f : En → R PyData) : En → R (List PyData) := fun ρ => (f ρ).bind fun d => match d with
  | .list ds => .ok ds
  | .tuple ds => .ok ds
  | .str z => .ok (z.cps.toList.map fun c => .str ⟨#[c]⟩)
  | _ => .bad
def rangeL (lo : Int) (n : Nat) : List PyData := (List.range n).map fun k => .int (lo + (k : Nat))
def rngOk (j : Int) : Prop := -(2 ^ 62) ≤ j ∧ j < 2 ^ 62
def rngB : Int → Bool
  | .ofNat n => Nat.blt n 4611686018427387904
  | .negSucc n => Nat.blt n 4611686018427387904
theorem rngB_iff (j : Int) : rngB j = true ↔ rngOk j := by
  unfold rngOk
  cases j with
  | ofNat n => simp only [rngB, Nat.blt_eq, Int.ofNat_eq_natCast]; constructor <;> intro h <;> omega
  | negSucc n => simp only [rngB, Nat.blt_eq, Int.negSucc_eq]; constructor <;> intro h <;> omega
instance (j : Int) : Decidable (rngOk j) := decidable_of_iff _ (rngB_iff j)
@[simp] def xRng1 (f : En → R PyData) : En → R (List PyData) := fun ρ => (f ρ).bind fun d => match d with
  | .int j => if rngOk j then .ok (rangeL 0 j.toNat) else .bad
  | _ => .bad
@[simp] def xRng2 (f g : En → R PyData) : En → R (List PyData) := fun ρ => (f ρ).bind fun d => (g ρ).bind fun e => match d, e with
  | .int i, .int j => if rngOk i ∧ rngOk j then .ok (rangeL i (j - i).toNat) else .bad
  | _, _ => .bad
def enumL : Nat → List PyData → List PyData
  | _, [] => []
  | k, d :: ds => .tuple [.int (k : Nat), d] :: enumL (k + 1) ds
@[simp] def xEnum (f : En → R PyData) : En → R (List PyData) := fun ρ => (f ρ).bind fun d => match d with
  | .list ds => .ok (enumL 0 ds)
  | _ => .bad
def zipL : List PyData → List PyData → List PyData
  | d :: ds, e :: es => .tuple [d, e] :: zipL ds es
  | _, _ => []
@[simp] def xZip (f g : En → R PyData) : En → R (List PyData) := fun ρ => (f ρ).bind fun d => (g ρ).bind fun e => match d, e with
  | .list ds, .list es => .ok (zipL ds es)
  | _, _ => .bad
theorem enumL_get : ∀ (ds : List PyData) (k i : Nat), (enumL k ds)[i]? = (ds[i]?).map fun d => .tuple [.int ((k + i : Nat) : Int), d]
  | [], _, _ => by simp [enumL]
  | d :: ds, k, 0 => by simp [enumL]
  | d :: ds, k, i + 1 => by
    show (enumL (k + 1) ds)[i]? = _
    rw [enumL_get ds (k + 1) i]
    simp [Nat.add_assoc, Nat.add_comm 1 i]
theorem enumL_len : ∀ (ds : List PyData) (k : Nat), (enumL k ds).length = ds.length
  | [], _ => rfl
  | d :: ds, k => by simp [enumL, enumL_len ds]
theorem zipL_get : ∀ (ds es : List PyData) (i : Nat) (d : PyData), (zipL ds es)[i]? = some d → ∃ x y, ds[i]? = some x ∧ es[i]? = some y ∧ d = .tuple [x, y]
  | [], _, _, _, h => by simp [zipL] at h
  | _ :: _, [], _, _, h => by simp [zipL] at h
  | d :: ds, e :: es, 0, x, h => by
    simp [zipL] at h
    exact ⟨d, e, rfl, rfl, h.symm⟩
  | d :: ds, e :: es, i + 1, x, h => zipL_get ds es i x h
theorem zipL_len : ∀ (ds es : List PyData), ds.length ≤ (zipL ds es).length ∨ es.length ≤ (zipL ds es).length
  | [], _ => Or.inl (Nat.zero_le _)
  | _ :: _, [] => Or.inr (Nat.zero_le _)
  | d :: ds, e :: es => by
    rcases zipL_len ds es with h | h
    · exact Or.inl (by simpa [zipL] using h)
    · exact Or.inr (by simpa [zipL] using h)
section
variable {K : Fg} {F : Hp}
/-- what is read of an address is one list (in the heap of what is told of) -/
theorem itl_ok' {a : Addr} {vs : List V} {ds : List PyData} (h : SqL K F a vs) (r : RpA K F vs ds) : ItOk K F (Itl K a) ds where
  stop := fun F2 H2 s1 s2 => ⟨vs, s2.seq (s1.seq h), by rw [r.len]; exact Nat.le_refl _⟩
  item := fun i d F2 H2 e s1 s2 => by
    obtain ⟨v, hv, rv⟩ := r.get e
    refine ⟨⟨vs, v, s2.seq (s1.seq h), hv⟩, fun x H3 y => ?_⟩
    obtain ⟨e3, y⟩ := y
    subst e3
    have := y vs (s2.seq (s1.seq h))
    rw [hv] at this
    cases this
    exact ⟨F2, Ext.refl s2, rv.same s1⟩
theorem itt_ok {a : Addr} {vs : List V} {ds : List PyData} (h : SqT K F a vs) (r : RpA K F vs ds) : ItOk K F (Itt K a) ds where
  stop := fun F2 H2 s1 s2 => ⟨vs, sqT_same s2 (sqT_same s1 h), by rw [r.len]; exact Nat.le_refl _⟩
  item := fun i d F2 H2 e s1 s2 => by
    obtain ⟨v, hv, rv⟩ := r.get e
    refine ⟨⟨vs, v, sqT_same s2 (sqT_same s1 h), hv⟩, fun x H3 y => ?_⟩
    obtain ⟨e3, y⟩ := y
    subst e3
    have := y vs (sqT_same s2 (sqT_same s1 h))
    rw [hv] at this
    cases this
    exact ⟨F2, Ext.refl s2, rv.same s1⟩
theorem its_ok (z : Str) : ItOk K F (Its z) (z.cps.toList.map fun c => .str ⟨#[c]⟩) where
  stop := fun F2 H2 s1 s2 => by simp [Its]
  item := fun i d F2 H2 e s1 s2 => by
    simp only [List.getElem?_map, Option.map_eq_some_iff] at e
    obtain ⟨c, h1, h2⟩ := e
    subst h2
    have h1' : z.cps[i]? = some c := by simpa using h1
    refine ⟨(Array.getElem?_eq_some_iff.mp h1').1, fun x H3 y => ?_⟩
    obtain ⟨e3, c', hc', y⟩ := y
    subst e3 y
    rw [h1'] at hc'
    cases hc'
    exact ⟨F2, Ext.refl s2, .str _⟩
theorem itr_ok (lo : Int) (n : Nat) : ItOk K F (Itr lo n) (rangeL lo n) where
  stop := fun F2 H2 s1 s2 => by simp [Itr, rangeL]
  item := fun i d F2 H2 e s1 s2 => by
    simp only [rangeL, List.getElem?_map, Option.map_eq_some_iff] at e
    obtain ⟨k, h1, h2⟩ := e
    subst h2
    have hk : i < n ∧ k = i := by
      obtain ⟨hl, he⟩ := List.getElem?_eq_some_iff.mp h1
      simp at hl he
      exact ⟨hl, he.symm⟩
    refine ⟨hk.1, fun x H3 y => ?_⟩
    obtain ⟨e3, y⟩ := y
    subst e3 y
    rw [hk.2]
    exact ⟨F2, Ext.refl s2, .int _⟩
theorem ite_ok {a : Addr} {vs : List V} {ds : List PyData} (h : SqL K F a vs) (r : RpA K F vs ds) : ItOk K F (Ite K a) (enumL 0 ds) where
  stop := fun F2 H2 s1 s2 => ⟨vs, s2.seq (s1.seq h), by rw [r.len, enumL_len]; exact Nat.le_refl _⟩
  item := fun i d F2 H2 e s1 s2 => by
    rw [enumL_get] at e
    simp only [Option.map_eq_some_iff] at e
    obtain ⟨d', h1, h2⟩ := e
    subst h2
    obtain ⟨v, hv, rv⟩ := r.get h1
    refine ⟨⟨vs, v, s2.seq (s1.seq h), hv⟩, fun x H3 y => ?_⟩
    obtain ⟨T, w, e1, e2, e3, y⟩ := y
    have := y vs (s2.seq (s1.seq h))
    rw [hv] at this
    cases this
    subst e1 e3
    refine ⟨_, Ext.new s2 e2, .tup (.of upd_same) (.cons ?_ (.cons ((rv.same s1).same (Ext.new (o := .tup [.int (i : Nat), v]) s2 e2).f) .nil))⟩
    rw [Nat.zero_add]
    exact .int _
theorem itz_ok {a b : Addr} {vs ws : List V} {ds es : List PyData} (h : SqL K F a vs) (r : RpA K F vs ds) (h' : SqL K F b ws) (r' : RpA K F ws es) : ItOk K F (Itz K a b) (zipL ds es) where
  stop := fun F2 H2 s1 s2 => ⟨vs, ws, s2.seq (s1.seq h), s2.seq (s1.seq h'), by rw [r.len, r'.len]; exact zipL_len ds es⟩
  item := fun i d F2 H2 e s1 s2 => by
    obtain ⟨x, y, h1, h2, h3⟩ := zipL_get ds es i d e
    subst h3
    obtain ⟨v, hv, rv⟩ := r.get h1
    obtain ⟨u, hu, ru⟩ := r'.get h2
    refine ⟨⟨vs, ws, v, u, s2.seq (s1.seq h), s2.seq (s1.seq h'), hv, hu⟩, fun q H3 z => ?_⟩
    obtain ⟨T, x', y', e1, e2, e3, z1, z2⟩ := z
    have a1 := z1 vs (s2.seq (s1.seq h))
    have a2 := z2 ws (s2.seq (s1.seq h'))
    rw [hv] at a1
    rw [hu] at a2
    cases a1; cases a2
    subst e1 e3
    have sm := (Ext.new (o := .tup [v, u]) s2 e2).f
    exact ⟨_, Ext.new s2 e2, .tup (.of upd_same) (.cons ((rv.same s1).same sm) (.cons ((ru.same s1).same sm) .nil))⟩
end
section
variable {X : Cx} {c : Cc} {tg e a b : Expr} {f g : En → R PyData} {pos p tpos : Pos}
theorem iItems (h : PE X e (tE X.K c f)) : PI X tg e (tIt X.K c (xItems f)) := pi_imp (pi_or (pi_list h) (pi_or (pi_tup h) (pi_str h))) fun σ H Z ⟨F, ρ, r, q⟩ => by
  have q := Po.bind q
  have go : ∀ (t : V → Hp → Prop), (Po c σ F H (f ρ) fun d F' H' => ∀ v, Rp X.K F' v d → t v H') → tE X.K c f σ H t := fun t z => ⟨F, ρ, r, z⟩
  generalize hf : f ρ = y at q go
  cases y with
  | ok d =>
    cases d with
    | list ds =>
      refine Or.inl (go _ fun F' H' x v rv => ?_)
      cases rv with
      | lst h1 r1 => exact ⟨_, rfl, ⟨_, x.s.seq h1⟩, q F' H' x F' H' (Ext.refl x.s) _ (itl_ok' h1 r1)⟩
    | tuple ds =>
      refine Or.inr (Or.inl (go _ fun F' H' x v rv => ?_))
      cases rv with
      | tup h1 r1 => exact ⟨_, rfl, ⟨_, sqT_same x.s h1⟩, q F' H' x F' H' (Ext.refl x.s) _ (itt_ok h1 r1)⟩
    | str z =>
      refine Or.inr (Or.inr (go _ fun F' H' x v rv => ?_))
      cases rv
      exact ⟨z, rfl, q F' H' x F' H' (Ext.refl x.s) _ (its_ok z)⟩
    | none => exact (q F H (Ext.refl r.s)).elim
    | bool _ => exact (q F H (Ext.refl r.s)).elim
    | int _ => exact (q F H (Ext.refl r.s)).elim
    | dict _ => exact (q F H (Ext.refl r.s)).elim
  | exc n => exact Or.inl (go _ q)
  | bad => exact q.elim
theorem iRng1 (hg : Gl X "range") (hm : X.mg "range" = none) (h : PE X a (tP X.K c f)) (hs1 : starEach [a] X.env = (false, eval a X.env) :: starEach [] X.env := by rfl) (hs : starEach [a] X.env = [(false, eval a X.env)] := by rfl) : PI X tg (.Call (.Name "range" p) [a] [] pos) (tIt X.K c (xRng1 f)) :=
  pi_imp (pi_range1 hg hm (pa_cons h pa_nil hs1) hs) fun σ H Z ⟨F, ρ, r, q⟩ =>
    ⟨F, ρ, r, (Po.bind q).mono fun d F' H' _ x k v rv => by
      cases rv with
      | int j =>
        dsimp only at k
        split at k
        · rename_i hj
          refine ⟨j, rfl, hj.1, hj.2, k F' H' (Ext.refl x.s) _ ?_⟩
          exact itr_ok 0 _
        · exact k.elim
      | non => exact k.elim
      | bl _ => exact k.elim
      | str _ => exact k.elim
      | lst _ _ => exact k.elim
      | tup _ _ => exact k.elim
      | dct _ _ => exact k.elim⟩
theorem iRng2 (hg : Gl X "range") (hm : X.mg "range" = none) (h : PE X a (tP X.K c f)) (h' : PE X b (tP X.K c g)) (hs1 : starEach [a, b] X.env = (false, eval a X.env) :: starEach [b] X.env := by rfl) (hs2 : starEach [b] X.env = (false, eval b X.env) :: starEach [] X.env := by rfl)
    (hs : starEach [a, b] X.env = [(false, eval a X.env), (false, eval b X.env)] := by rfl) (hs3 : starEach [b] X.env = [(false, eval b X.env)] := by rfl) : PI X tg (.Call (.Name "range" p) [a, b] [] pos) (tIt X.K c (xRng2 f g)) :=
  pi_imp (pi_range2 hg hm (pa_cons h (pa_cons h' pa_nil hs2) hs1) hs hs3) fun σ H Z ⟨F, ρ, r, q⟩ =>
    ⟨F, ρ, r, (Po.bind q).mono fun d F1 H1 _ x1 k v rv => ⟨F1, ρ, r.ext x1, (Po.bind k).mono fun d' F' H' _ x k v' rv' => by
      cases rv with
      | int i =>
        cases rv' with
        | int j =>
          dsimp only at k
          split at k
          · rename_i hj
            exact ⟨i, j, rfl, ⟨hj.1.1, hj.1.2, hj.2.1, hj.2.2⟩, k F' H' (Ext.refl x.s) _ (itr_ok i _)⟩
          · exact k.elim
        | non => exact k.elim
        | bl _ => exact k.elim
        | str _ => exact k.elim
        | lst _ _ => exact k.elim
        | tup _ _ => exact k.elim
        | dct _ _ => exact k.elim
      | non => exact k.elim
      | bl _ => exact k.elim
      | str _ => exact k.elim
      | lst _ _ => exact k.elim
      | tup _ _ => exact k.elim
      | dct _ _ => exact k.elim⟩⟩
theorem iEnum {elts : List Expr} {kk : Nat} (hg : Gl X "enumerate") (hm : X.mg "enumerate" = none) (h : PE X a (tE X.K c f)) (hs1 : starEach [a] X.env = (false, eval a X.env) :: starEach [] X.env := by rfl) (hs : starEach [a] X.env = [(false, eval a X.env)] := by rfl) :
    PI X (.Tuple elts kk tpos) (.Call (.Name "enumerate" p) [a] [] pos) (tIt X.K c (xEnum f)) :=
  pi_imp (pi_enum hg hm (pa_cons h pa_nil hs1) hs) fun σ H Z ⟨F, ρ, r, q⟩ =>
    ⟨F, ρ, r, (Po.bind q).mono fun d F' H' _ x k v rv => by
      cases rv with
      | lst h1 r1 => exact ⟨_, _, rfl, x.s.seq h1, k F' H' (Ext.refl x.s) _ (ite_ok h1 r1)⟩
      | non => exact k.elim
      | bl _ => exact k.elim
      | str _ => exact k.elim
      | int _ => exact k.elim
      | tup _ _ => exact k.elim
      | dct _ _ => exact k.elim⟩
theorem iZip {elts : List Expr} {kk : Nat} (hg : Gl X "zip") (hm : X.mg "zip" = none) (h : PE X a (tE X.K c f)) (h' : PE X b (tE X.K c g)) (hs2 : starEach [b] X.env = (false, eval b X.env) :: starEach [] X.env := by rfl)
    (hs : starEach [a, b] X.env = (false, eval a X.env) :: starEach [b] X.env := by rfl) (hpl : (backTo pos (starEach [b] X.env)).any (·.1) = false := by rfl) : PI X (.Tuple elts kk tpos) (.Call (.Name "zip" p) [a, b] [] pos) (tIt X.K c (xZip f g)) :=
  pi_imp (pi_zip hg hm (pa_cons h (pa_cons h' pa_nil hs2) hs) hs hpl) fun σ H Z ⟨F, ρ, r, q⟩ =>
    ⟨F, ρ, r, (Po.bind q).mono fun d F1 H1 _ x1 k v rv => ⟨F1, ρ, r.ext x1, (Po.bind k).mono fun d' F' H' _ x k v' rv' => by
      cases rv with
      | lst h1 r1 =>
        cases rv' with
        | lst h2 r2 => exact ⟨_, _, _, _, rfl, x.s.seq (x.f.seq h1), x.s.seq h2, k F' H' (Ext.refl x.s) _ (itz_ok (x.f.seq h1) (r1.same x.f) h2 r2)⟩
        | non => exact k.elim
        | bl _ => exact k.elim
        | str _ => exact k.elim
        | int _ => exact k.elim
        | tup _ _ => exact k.elim
        | dct _ _ => exact k.elim
      | non => exact k.elim
      | bl _ => exact k.elim
      | str _ => exact k.elim
      | int _ => exact k.elim
      | tup _ _ => exact k.elim
      | dct _ _ => exact k.elim⟩⟩
end

/-! ### for -/
@[simp] def loopO (τ : PyData → En → R En) (body : En → O) : List PyData → En → O
  | [], ρ => .nx ρ
  | d :: ds, ρ => match τ d ρ with
    | .ok ρ1 => seqO (body ρ1) (loopO τ body ds)
    | _ => .bad
@[simp] def yFor (f : En → R (List PyData)) (τ : PyData → En → R En) (body : En → O) : En → O := fun ρ => bO (f ρ) ρ fun ds => loopO τ body ds ρ
theorem zFor {X : Cx} {c : Cc} {tg iter : Expr} {body : List Stmt} {f : En → R (List PyData)} {g : TG} {τ : PyData → En → R En} {is : List Nat} {b : En → O} {pos : Pos} (hp : PassesOwn (model X.prog X.w) X.A X.env X.xe) (hc : X.calm = true) (hi : PI X tg iter (tIt X.K c f)) (hg : PG X tg g) (T : Tgt X.K g τ is) (hb : PSs X body (tZ X.K c b))
    (hs : ∀ x, foldedSetIterable iter X.env x = pure x := by intro _; rfl) : PS X (.For tg iter body [] pos) (tZ X.K c (yFor f τ b)) := ps_imp (ps_for hp hc hi hg hb hs) fun D σ H ⟨F, ρ, r, q⟩ =>
  ⟨F, ρ, r, (Oo.po r q).mono fun ds F1 H1 _ x1 k J ok => by
    refine ⟨fun i m σ H => m = ds.length - i ∧ i ≤ ds.length ∧ ∃ F ρ, Same F1 F ∧ Rl X.K c F H ρ σ ∧ Oo X.K c F D (loopO τ b (ds.drop i) ρ), ⟨_, rfl, Nat.zero_le _, F1, ρ, Same.refl _, r.ext x1, k⟩, ?_⟩
    rintro i m σ H ⟨rfl, hi, F2, ρ2, s2, r2, q2⟩
    by_cases hlt : i < ds.length
    · have e : ds[i]? = some ds[i] := List.getElem?_eq_getElem hlt
      obtain ⟨go, it⟩ := ok.item i _ F2 H e s2 r2.s
      refine Or.inr ⟨go, fun σ' H' => ∃ F ρ, Same F1 F ∧ Rl X.K c F H' ρ σ' ∧ Oo X.K c F D (loopO τ b (ds.drop (i + 1)) ρ), fun σ' H' z => ⟨_, by omega, rfl, hlt, z⟩, fun x H' y => ?_⟩
      obtain ⟨F3, x3, rv⟩ := it x H' y
      rw [List.drop_eq_getElem_cons hlt] at q2
      unfold loopO at q2
      cases ht : τ ds[i] ρ2 with
      | ok ρ3 =>
        rw [ht] at q2
        refine T.ok c F3 H' ρ2 ρ3 σ x _ _ (r2.ext x3) rv ht fun σ4 r4 _ => ⟨F3, ρ3, r4, ?_⟩
        dsimp only at q2
        have sm : Same F1 F3 := s2.trans x3.f
        cases hbo : b ρ3 with
        | nx ρ5 => rw [hbo] at q2; exact fun F' H' σ' s5 r5 => ⟨F', ρ5, sm.trans s5, r5, q2.mono (x3.f.trans s5)⟩
        | rt d => rw [hbo] at q2; exact q2
        | ex n ρ5 => rw [hbo] at q2; exact q2
        | bad => rw [hbo] at q2; exact q2
      | exc n => rw [ht] at q2; exact q2.elim
      | bad => rw [ht] at q2; exact q2.elim
    · have e : i = ds.length := by omega
      subst e
      rw [List.drop_length] at q2
      exact Or.inl ⟨ok.stop F2 H s2 r2.s, q2 F2 H σ (Same.refl F2) r2⟩⟩

/-! ### while -/
def whileO (t : En → R Bool) (body : En → O) : Nat → En → O
  | 0, _ => .bad
  | n + 1, ρ => bO (t ρ) ρ fun z => if z = true then seqO (body ρ) (whileO t body n) else .nx ρ
@[simp] def yWhile (n : Nat) (t : En → R Bool) (body : En → O) : En → O := whileO t body n
theorem zWhile {X : Cx} {c : Cc} {e : Expr} {body : List Stmt} {t : En → R Bool} {b : En → O} {pos : Pos} (n : Nat) (hp : PassesOwn (model X.prog X.w) X.A X.env X.xe) (ht : PT X e (tT X.K c t)) (hb : PSs X body (tZ X.K c b)) : PS X (.While e body [] pos) (tZ X.K c (yWhile n t b)) :=
  ps_imp (ps_while hp ht hb) fun D σ H ⟨F, ρ, r, q⟩ => by
    refine ⟨fun m σ H => ∃ F ρ, Rl X.K c F H ρ σ ∧ Oo X.K c F D (whileO t b m ρ), ⟨n, F, ρ, r, q⟩, ?_⟩
    rintro m σ H ⟨F, ρ, r, q⟩
    cases m with
    | zero => exact q.elim
    | succ m =>
      refine ⟨F, ρ, r, (Oo.po r q).mono fun z F1 H1 _ x1 k => ?_⟩
      cases z with
      | false => exact k F1 H1 σ (Same.refl F1) (r.ext x1)
      | true =>
        refine ⟨fun σ' H' => ∃ F ρ, Rl X.K c F H' ρ σ' ∧ Oo X.K c F D (whileO t b m ρ), fun σ' H' z => ⟨m, Nat.lt_succ_self m, z⟩, F1, ρ, r.ext x1, ?_⟩
        rw [if_pos rfl] at k
        cases hbo : b ρ with
        | nx ρ5 => rw [hbo] at k; exact fun F' H' σ' s5 r5 => ⟨F', ρ5, r5, k.mono s5⟩
        | rt d => rw [hbo] at k; exact k
        | ex n ρ5 => rw [hbo] at k; exact k
        | bad => rw [hbo] at k; exact k
end DL
set_option Elab.async false
set_option linter.all false
set_option maxRecDepth 100000
set_option maxHeartbeats 1000000
/-! List comprehensions; defs by their bodies. -/
namespace DL
open PySem PySem.Spec L2
/-- within a block no exception is wanted -/
abbrev Cc.q (c : Cc) : Cc := { c with W := fun _ _ _ _ => False }
@[simp] def compO (τ : PyData → En → R En) (tt : En → R Bool) (te : En → R PyData) : List PyData → En → R (List PyData)
  | [], _ => .ok []
  | d :: ds, ρ => match τ d ρ with
    | .ok ρ1 => (tt ρ1).bind fun z => if z = true then (te ρ1).bind fun y => (compO τ tt te ds ρ).bind fun ys => .ok (y :: ys) else compO τ tt te ds ρ
    | _ => .bad
@[simp] def wipeE (ρ : En) : List Nat → En
  | [] => ρ
  | v :: vs => (wipeE ρ vs).set v .un
@[simp] def noX {α : Type} : R α → R α
  | .ok a => .ok a
  | _ => .bad
@[simp] def xYes : En → R Bool := fun _ => .ok true
@[simp] def xComp (is : List Nat) (f : En → R (List PyData)) (τ : PyData → En → R En) (tt : En → R Bool) (te : En → R PyData) : En → R (List PyData) := fun ρ =>
  (f ρ).bind fun ds => if ds.length ≤ sizeLine then noX (compO τ tt te ds (wipeE ρ is)) else .bad
section
variable {K : Fg} {c : Cc} {F H : Hp} {ρ : En} {σ : St}
theorem Rl.qt (r : Rl K c F H ρ σ) : Rl K c.q F H ρ σ := ⟨r.len, r.e, fun i s e => by
  have h := r.at_ i s e
  cases s <;> exact h, r.one⟩
theorem Rl.unset {i : Nat} (r : Rl K c F H ρ σ) : Rl K c F H (ρ.set i .un) (σ.set i none) := by
  refine ⟨by rw [List.length_set, List.length_set, r.len], r.e, fun j t e => ?_, fun j k t u p ej ek ot ou hj hk => ?_⟩
  · by_cases hij : i = j
    · subst hij
      by_cases hl : i < ρ.length
      · rw [List.getElem?_set_self hl] at e
        cases e
        trivial
      · rw [List.getElem?_eq_none (by rw [List.length_set]; omega)] at e
        cases e
    · rw [List.getElem?_set_ne hij] at e ⊢
      exact r.at_ j t e
  · have ne : ∀ (m : Nat) (y : Slot), (ρ.set i .un)[m]? = some y → isOwn y = true → i ≠ m := fun m y em oy z => by
      subst z
      by_cases hl : i < ρ.length
      · rw [List.getElem?_set_self hl] at em
        cases em
        cases oy
      · rw [List.getElem?_eq_none (by rw [List.length_set]; omega)] at em
        cases em
    have n1 := ne j t ej ot
    have n2 := ne k u ek ou
    rw [List.getElem?_set_ne n1] at ej hj
    rw [List.getElem?_set_ne n2] at ek hk
    exact r.one j k t u p ej ek ot ou hj hk
theorem Rl.wipe (r : Rl K c F H ρ σ) : ∀ vs : List Nat, Rl K c F H (wipeE ρ vs) (L2.wipe σ vs)
  | [] => r
  | _ :: vs => (r.wipe vs).unset
/-- a list that no name holds changes, or comes to be -/
theorem Rl.side {D : Addr} {o : HO} (r : Rl K c F H ρ σ) (hF : F D = none) (h0 : c.H0 D = none) (hs : ∀ (j : Nat) (t : Slot), ρ[j]? = some t → isOwn t = true → σ[j]? ≠ some (some (.ref D))) : Rl K c F (upd H D o) ρ σ := by
  refine ⟨r.len, ⟨r.e.f, fun b x q => ?_, fun b x q => ?_, r.e.n⟩, fun j s ej => ?_, r.one⟩
  · rw [upd_ne (ne_of_none q h0)]; exact r.e.h b x q
  · rw [upd_ne (ne_of_none q hF)]; exact r.s b x q
  · have q := r.at_ j s ej
    cases s with
    | un => trivial
    | sh d => exact q
    | own ds =>
      obtain ⟨w, vs, e1, h1, h2, h3, r1⟩ := q
      exact ⟨w, vs, e1, by rw [upd_ne (fun z => hs j _ ej rfl (by rw [← z]; exact e1))]; exact h1, h2, h3, r1⟩
    | odc ds =>
      obtain ⟨w, vs, e1, h1, h2, h3, r1⟩ := q
      exact ⟨w, vs, e1, by rw [upd_ne (fun z => hs j _ ej rfl (by rw [← z]; exact e1))]; exact h1, h2, h3, r1⟩
    | kn => exact q
    | nw d => exact q
    | owN ds =>
      obtain ⟨w, vs, e1, h1, h2, h3, r1⟩ := q
      exact ⟨w, vs, e1, by rw [upd_ne (fun z => hs j _ ej rfl (by rw [← z]; exact e1))]; exact h1, h2, h3, r1⟩
theorem Ext.side {F H F' H' : Hp} {D : Addr} {o : HO} (x : Ext F H F' H') (h : H D = none) (hF : F' D = none) : Ext F H F' (upd H' D o) :=
  ⟨x.f, fun b u e => by rw [upd_ne (ne_of_none e h)]; exact x.h b u e, fun b u e => by rw [upd_ne (ne_of_none e hF)]; exact x.s b u e, x.n⟩
theorem wipe_wipe (σ : St) (vs : List Nat) : L2.wipe (L2.wipe σ vs) vs = L2.wipe σ vs := by
  apply List.ext_getElem?
  intro j
  rw [wipe_get, wipe_length]
  by_cases h : j ∈ vs ∧ j < σ.length
  · rw [if_pos h, wipe_get, if_pos h]
  · rw [if_neg h]
end
theorem bind_ok_inv {α β : Type} {r : R α} {k : α → R β} {b : β} (h : r.bind k = .ok b) : ∃ a, r = .ok a ∧ k a = .ok b := by
  cases r with
  | ok a => exact ⟨a, rfl, h⟩
  | exc n => cases h
  | bad => cases h
theorem Po.okk {c : Cc} {σ : St} {F H : Hp} {α : Type} {r : R α} {a : α} {G : α → Hp → Hp → Prop} (e : r = .ok a) (h : ∀ F' H', Ext F H F' H' → G a F' H') : Po c σ F H r G := by
  subst e
  exact h
theorem lComp {X : Cx} {c : Cc} {elt tg iter : Expr} {ifs : List Expr} {scope : Scope} {own : List (Str × Nat)} {pos : Pos} {f : En → R (List PyData)} {g : TG} {τ : PyData → En → R En} {is : List Nat} {tt : En → R Bool} {te : En → R PyData} (hc : X.calm = true) (nd : X.N.Nodup)
    (hi : PI X tg iter (tIt X.K c f)) (ok : BlkOk X.N X.env.scope scope own) (hv : own.map (·.2) = is) (T : Tgt X.K g τ is)
    (hg : ∀ (s : Shared) (H : Hp) (C : Addr) (cl : List (Str × Addr)) (fp : List Addr), PG (X.blk s H scope (compEnvC scope cl C X.env) fp) tg g) (ht : ∀ (s : Shared) (H : Hp) (C : Addr) (cl : List (Str × Addr)) (fp : List Addr), PTs (X.blk s H scope (compEnvC scope cl C X.env) fp) ifs (tT X.K c.q tt))
    (he : ∀ (s : Shared) (H : Hp) (C : Addr) (cl : List (Str × Addr)) (fp : List Addr), PE (X.blk s H scope (compEnvC scope cl C X.env) fp) elt (tE X.K c.q te)) (hs : ∀ x, foldedSetIterable iter X.env x = pure x := by intro _; rfl) :
    PE X (.ListComp elt [⟨tg, iter, ifs, 0⟩] scope pos) (tL X.K c (xComp is f τ tt te)) ∧ ∀ σ H Q, tL X.K c (xComp is f τ tt te) σ H Q → tLc (tIt X.K c f) g (tT X.K c.q tt) (tE X.K c.q te) (own.map (·.2)) σ H Q := by
  have red : ∀ σ H Q, tL X.K c (xComp is f τ tt te) σ H Q → tLc (tIt X.K c f) g (tT X.K c.q tt) (tE X.K c.q te) (own.map (·.2)) σ H Q := fun σ H Q ⟨F, ρ, r, q⟩ => by
    rw [hv]
    refine ⟨F, ρ, r, (Po.bind q).mono fun ds F1 H1 _ x1 k J ok D hD => ?_⟩
    split at k
    · rename_i hz
      cases hcp : compO τ tt te ds (wipeE ρ is) with
      | exc n => rw [hcp] at k; exact k.elim
      | bad => rw [hcp] at k; exact k.elim
      | ok es =>
        rw [hcp] at k
        have r1 := r.ext x1
        have fD : F1 D = none := x1.s.free hD
        have cD : c.H0 D = none := r1.e.h.free hD
        have sD : ∀ (j : Nat) (t : Slot), ρ[j]? = some t → isOwn t = true → σ[j]? ≠ some (some (.ref D)) := fun j t ej ot hj => by
          obtain ⟨u, hu, _⟩ := r1.ownAt ej ot hj
          rw [hD] at hu; cases hu
        refine ⟨fun i m H => m = ds.length - i ∧ i ≤ ds.length ∧ ∃ F vs as ys, Ext F1 H1 F H ∧ Rl X.K c F H ρ σ ∧ F D = none ∧ H D = some (.lst vs) ∧ RpA X.K F vs as ∧ as.length ≤ i ∧ compO τ tt te (ds.drop i) (wipeE ρ is) = .ok ys ∧ es = as ++ ys,
          ⟨_, rfl, Nat.zero_le _, F1, [], [], es, (Ext.refl x1.s).side hD fD, r1.side fD cD sD, fD, upd_same, .nil, Nat.le_refl _, hcp, rfl⟩, ?_⟩
        rintro i m H2 ⟨rfl, hi, F2, vs, as, ys, x2, r2, f2, h2, ra, la, hy, he2⟩
        by_cases hlt : i < ds.length
        · have e : ds[i]? = some ds[i] := List.getElem?_eq_getElem hlt
          obtain ⟨go, it⟩ := ok.item i _ F2 H2 e x2.f r2.s
          refine Or.inr ⟨go, fun H' => ∃ F vs as ys, Ext F1 H1 F H' ∧ Rl X.K c F H' ρ σ ∧ F D = none ∧ H' D = some (.lst vs) ∧ RpA X.K F vs as ∧ as.length ≤ i + 1 ∧ compO τ tt te (ds.drop (i + 1)) (wipeE ρ is) = .ok ys ∧ es = as ++ ys, fun H' z => ⟨_, by omega, rfl, hlt, z⟩, fun x H3 y => ?_⟩
          obtain ⟨F3, x3, rv⟩ := it x H3 y
          rw [List.drop_eq_getElem_cons hlt] at hy
          unfold compO at hy
          have r3 := (r2.ext x3)
          have f3 : F3 D = none := x3.own_none h2 f2
          cases htt : τ ds[i] (wipeE ρ is) with
          | exc n => rw [htt] at hy; cases hy
          | bad => rw [htt] at hy; cases hy
          | ok ρ1 =>
            rw [htt] at hy
            dsimp only at hy
            refine T.ok c.q F3 H3 (wipeE ρ is) ρ1 (L2.wipe σ is) x _ _ (r3.wipe is).qt rv htt fun σ4 r4 w4 => ⟨by rw [w4 is (fun _ z => z), wipe_wipe], ?_⟩
            obtain ⟨z, hz1, hz2⟩ := bind_ok_inv hy
            refine ⟨F3, ρ1, r4, Po.okk hz1 fun F5 H5 x5 => ?_⟩
            have x25 := x3.trans x5
            cases z with
            | false =>
              rw [if_neg Bool.false_ne_true] at hz2
              exact iteF ⟨F5, vs, as, ys, x2.trans x25, r2.ext x25, x25.own_none h2 f2, x25.h _ _ h2, ra.same x25.f, by omega, hz2, he2⟩
            | true =>
              rw [if_pos rfl] at hz2
              refine iteT ?_
              obtain ⟨y', hy1, hy2⟩ := bind_ok_inv hz2
              obtain ⟨ys', hy3, hy4⟩ := bind_ok_inv hy2
              cases hy4
              refine ⟨F5, ρ1, r4.ext x5, Po.okk hy1 fun F6 H6 x6 v rv6 => ?_⟩
              have x26 := x25.trans x6
              have f6 : F6 D = none := x26.own_none h2 f2
              have h6 := x26.h _ _ h2
              have ra6 := ra.same x26.f
              refine ⟨vs, h6, by rw [ra6.len]; omega, F6, vs ++ [v], as ++ [y'], ys', (x2.trans x26).side hD f6, (r2.ext x26).side f6 cD sD, f6, upd_same, ra6.app (.cons rv6 .nil), by rw [List.length_append]; simp; omega, hy3, by rw [he2, List.append_assoc]; rfl⟩
        · have e : i = ds.length := by omega
          subst e
          rw [List.drop_length] at hy
          cases hy
          rw [List.append_nil] at he2
          subst he2
          exact Or.inl ⟨ok.stop F2 H2 x2.f r2.s, k F2 H2 x2 D vs h2 f2 (x1.h.free hD) ra⟩
    · exact k.elim
  exact ⟨pe_imp (pe_lc hc nd hi ok hg ht he hs) red, red⟩
section
variable {X : Cx} {c : Cc} {elt tg iter : Expr} {ifs : List Expr} {scope : Scope} {own : List (Str × Nat)} {pos spos py : Pos} {y : Str} {f : En → R (List PyData)} {g : TG} {τ : PyData → En → R En} {is : List Nat} {tt : En → R Bool} {te : En → R PyData} {cd : Expr}
theorem ts0 : PTs X [] (tT X.K c xYes) := ⟨fun pins s σ H Q I ⟨F, ρ, r, q⟩ => pts_nil.run pins s σ H Q I (q F H (Ext.refl r.s))⟩
theorem ts1 {tc : En → R Bool} (h : PT X cd (tT X.K c tc)) : PTs X [cd] (tT X.K c tc) := pts_one h
/-- y = [..], on one line, y a plain local: the list y's own -/
theorem zOwnC (i : Nat) (hc : X.calm = true) (nd : X.N.Nodup) (L : PE X (.ListComp elt [⟨tg, iter, ifs, 0⟩] scope pos) (tL X.K c (xComp is f τ tt te)) ∧ ∀ σ H Q, tL X.K c (xComp is f τ tt te) σ H Q → tLc (tIt X.K c f) g (tT X.K c.q tt) (tE X.K c.q te) (own.map (·.2)) σ H Q)
    (hi : PI X tg iter (tIt X.K c f)) (ok : BlkOk X.N X.env.scope scope own)
    (hg : ∀ (s : Shared) (H : Hp) (C : Addr) (cl : List (Str × Addr)) (fp : List Addr), PG (X.blk s H scope (compEnvC scope cl C X.env) fp) tg g) (ht : ∀ (s : Shared) (H : Hp) (C : Addr) (cl : List (Str × Addr)) (fp : List Addr), PTs (X.blk s H scope (compEnvC scope cl C X.env) fp) ifs (tT X.K c.q tt))
    (he : ∀ (s : Shared) (H : Hp) (C : Addr) (cl : List (Str × Addr)) (fp : List Addr), PE (X.blk s H scope (compEnvC scope cl C X.env) fp) elt (tE X.K c.q te))
    (hsw : swapsWith (.ListComp elt [⟨tg, iter, ifs, 0⟩] scope pos) (some (.Name y py)) spos.line X.env = pure true) (hy : X.N[i]? = some y := by rfl) (hyl : X.env.scope.names.lookup y = some .local := by rfl) (hs : ∀ x, foldedSetIterable iter X.env x = pure x := by intro _; rfl) :
    PS X (.Assign [.Name y py] (.ListComp elt [⟨tg, iter, ifs, 0⟩] scope pos) spos) (tZ X.K c (yOwn i (xComp is f τ tt te))) :=
  ps_imp (ps_setLc hc nd hy hyl hsw hi ok hg ht he hs) fun D σ H ⟨F, ρ, r, q⟩ => L.2 σ H (fun v H1 => gName i v σ H1 D.nx) ⟨F, ρ, r, (Oo.po r q).mono fun d F' H' _ x k p vs h1 h2 h3 rv => k F' H' _ (Same.refl F') (setOwn_ok r x h1 h2 h3 rv)⟩
theorem zSetC (i : Nat) (hc : X.calm = true) (nd : X.N.Nodup) (L : PE X (.ListComp elt [⟨tg, iter, ifs, 0⟩] scope pos) (tL X.K c (xComp is f τ tt te)) ∧ ∀ σ H Q, tL X.K c (xComp is f τ tt te) σ H Q → tLc (tIt X.K c f) g (tT X.K c.q tt) (tE X.K c.q te) (own.map (·.2)) σ H Q)
    (hi : PI X tg iter (tIt X.K c f)) (ok : BlkOk X.N X.env.scope scope own)
    (hg : ∀ (s : Shared) (H : Hp) (C : Addr) (cl : List (Str × Addr)) (fp : List Addr), PG (X.blk s H scope (compEnvC scope cl C X.env) fp) tg g) (ht : ∀ (s : Shared) (H : Hp) (C : Addr) (cl : List (Str × Addr)) (fp : List Addr), PTs (X.blk s H scope (compEnvC scope cl C X.env) fp) ifs (tT X.K c.q tt))
    (he : ∀ (s : Shared) (H : Hp) (C : Addr) (cl : List (Str × Addr)) (fp : List Addr), PE (X.blk s H scope (compEnvC scope cl C X.env) fp) elt (tE X.K c.q te))
    (hsw : swapsWith (.ListComp elt [⟨tg, iter, ifs, 0⟩] scope pos) (some (.Name y py)) spos.line X.env = pure true) (hy : X.N[i]? = some y := by rfl) (hyl : X.env.scope.names.lookup y = some .local := by rfl) (hs : ∀ x, foldedSetIterable iter X.env x = pure x := by intro _; rfl) :
    PS X (.Assign [.Name y py] (.ListComp elt [⟨tg, iter, ifs, 0⟩] scope pos) spos) (tZ X.K c (ySet i (xL (xComp is f τ tt te)))) :=
  ps_imp (ps_setLc hc nd hy hyl hsw hi ok hg ht he hs) fun D σ H ⟨F, ρ, r, q⟩ => L.2 σ H (fun v H1 => gName i v σ H1 D.nx) ⟨F, ρ, r, by
    have q := Oo.po r q
    unfold xL at q
    cases hf : xComp is f τ tt te ρ with
    | ok es =>
      rw [hf] at q
      refine fun F' H' x p vs hp fp np rv => ?_
      have sm : Same F' (upd F' p (.lst vs)) := same_new fp
      have xx : Ext F H (upd F' p (.lst vs)) H' := ⟨x.f.trans sm, x.h, Same.freeze x.s hp, fun b o e => by
        by_cases z : b = p
        · subst z; exact Or.inr np
        · rw [upd_ne z] at e; exact x.n b o e⟩
      exact q _ H' xx _ H' _ (Same.refl _) ((r.ext xx).setD (.lst (.of upd_same) (rv.same sm)))
    | exc n => rw [hf] at q; exact q
    | bad => rw [hf] at q; exact q⟩
end

/-! ### defs -/
@[simp] def fin : O → R PyData
  | .nx _ => .ok .none
  | .rt d => .ok d
  | .ex n _ => .exc n
  | .bad => .bad
/-- the names at the entry -/
@[simp] def env0 (n : Nat) (ds : List PyData) : En := ds.map Slot.sh ++ List.replicate (n - ds.length) Slot.un
theorem env0_get {n : Nat} : ∀ {ds : List PyData} {i : Nat} {s : Slot}, (env0 n ds)[i]? = some s → (∃ d, ds[i]? = some d ∧ s = .sh d) ∨ s = .un := by
  intro ds i s h
  unfold env0 at h
  by_cases hi : i < ds.length
  · rw [List.getElem?_append_left (by rw [List.length_map]; exact hi), List.getElem?_map] at h
    simp only [Option.map_eq_some_iff] at h
    obtain ⟨d, h1, h2⟩ := h
    exact Or.inl ⟨d, h1, h2.symm⟩
  · rw [List.getElem?_append_right (by rw [List.length_map]; omega), List.getElem?_replicate] at h
    split at h
    · cases h; exact Or.inr rfl
    · cases h
section
variable {P : Program} {w : World} {K : Fg} {mg : Str → Option Value} {base : Heap}
/-- a def of the text, by its body's reading -/
theorem def_ok {x qual : Str} {st : Stmt} {f : Addr} {fd : FuncData} {N ps : List Str} {k n : Nat} {ca : Str → Value} {Fn : List PyData → R PyData} {body : En → O} (Fu : Fun K x qual st f fd) (S : FnScope N ps (defScope st)) (hn : ps.length = n)
    (hbody : ∀ (cdv : Value) (A : Around) (outer : List Env) (s : Shared) (H : Hp) (E : XK) (c : Cc), c.ca = ca → Takes (cxOf (L2.CX P w) P w K mg base N qual (defScope st) f cdv A outer s H E) c.W → PassesOwn (model P w) (cxOf (L2.CX P w) P w K mg base N qual (defScope st) f cdv A outer s H E).A (cxOf (L2.CX P w) P w K mg base N qual (defScope st) f cdv A outer s H E).env (cxOf (L2.CX P w) P w K mg base N qual (defScope st) f cdv A outer s H E).xe →
      Room k (cxOf (L2.CX P w) P w K mg base N qual (defScope st) f cdv A outer s H E).A → PSs (cxOf (L2.CX P w) P w K mg base N qual (defScope st) f cdv A outer s H E) (defBody st) (tZ K c body))
    (hF : ∀ ds, ds.length = n → Fn ds = fin (body (env0 N.length ds))) : FnOk P w K mg base (L2.CX P w) (k + 1) f fd ps (spD K ca n Fn) := by
  refine Fu.okX S (spD_len hn) fun cdv A outer s H vs Q E hr h => ?_
  obtain ⟨hl, F, ds, sm, rv, q⟩ := h
  have hds : ds.length = n := by rw [← rv.len]; exact hl
  have hN : n ≤ N.length := by
    have := congrArg List.length S.pre
    rw [List.length_take, hn] at this
    omega
  refine ⟨_, hbody cdv A outer s H E ⟨ca, fun cls d _ H => E cls d H, F, H, H, .non⟩ rfl (takes_of rfl rfl rfl rfl) (passes_of rfl) hr, F, env0 N.length ds, ⟨?_, Ext.refl sm, fun i t e => ?_, fun i j t u p e1 e2 o1 o2 => ?_⟩, ?_⟩
  · unfold env0 L2.start
    simp only [List.length_append, List.length_map, List.length_replicate, rv.len]
  · rcases env0_get e with ⟨d, h1, h2⟩ | h2
    · subst h2
      obtain ⟨v, h3, h4⟩ := rv.get h1
      refine ⟨v, ?_, h4⟩
      unfold L2.start
      rw [List.getElem?_append_left (by rw [List.length_map]; exact (List.getElem?_eq_some_iff.mp h3).1), List.getElem?_map, h3]
      rfl
    · subst h2; trivial
  · rcases env0_get e1 with ⟨d, h1, h2⟩ | h2
    · subst h2; cases o1
    · subst h2; cases o1
  · rw [hF ds hds] at q
    cases hb : body (env0 N.length ds) with
    | nx ρ => rw [hb] at q; exact fun F' H' σ' s' r => q F' H' .non r.e .non
    | rt d => rw [hb] at q; exact q
    | ex m ρ => rw [hb] at q; exact fun F' H' σ' r => q H' r.e.h
    | bad => rw [hb] at q; exact q.elim
end
/-- a def that can be called -/
structure Cal (P : Program) (w : World) (K : Fg) (mg : Str → Option Value) (base : Heap) (ca : Str → Value) (k : Nat) (x : Str) (n : Nat) (Fn : List PyData → R PyData) : Prop where
  ex : ∃ (f : Addr) (fd : FuncData) (ps : List Str), FnOk P w K mg base (L2.CX P w) k f fd ps (spD K ca n Fn) ∧ ps.length = n ∧ mg x = some (.ref f) ∧ PySem.W.keepIn K (.ref f) = true ∧ Binds K fd ps []
theorem eCal {X : Cx} {c : Cc} {e : Expr} {es : List Expr} {g : En → R (List PyData)} {pos p : Pos} {x : Str} {k j n : Nat} {Fn : List PyData → R PyData} (C : Cal X.prog X.w X.K X.mg X.base c.ca k x n Fn) (tk : Takes X c.W) (hr : Room j X.A) (ha : PA X (e :: es) (tA X.K c g)) (hk : k ≤ j := by decide) (hl : (e :: es).length = n := by rfl)
    (hg : Gl X x := by rfl) (hdb : (x == ("__debug__" : Str)) = false := by decide)
    (he : starEach (e :: es) X.env = (false, eval e X.env) :: starEach es X.env := by rfl) (hpl : (backTo pos (starEach es X.env)).any (·.1) = false := by rfl) :
    PE X (.Call (.Name x p) (e :: es) [] pos) (tE X.K c (xCall (fun ds => if ds.length = n then Fn ds else .bad) g)) := by
  obtain ⟨f, fd, ps, h1, h2, h3, h4, h5⟩ := C.ex
  exact eCall tk h1 (hr.mono hk) h2 hg h3 h4 h5 ha hl hdb he hpl
end DL
set_option Elab.async false
set_option linter.all false
set_option maxRecDepth 100000
set_option maxHeartbeats 1000000
/-! and, or, not, chains, -x, a if t else b, list + list; the module's facts. -/
namespace DL
open PySem PySem.Spec L2
@[simp] def xAndT (f g : En → R Bool) : En → R Bool := fun ρ => (f ρ).bind fun z => if z = true then g ρ else .ok false
@[simp] def xOrT (f g : En → R Bool) : En → R Bool := fun ρ => (f ρ).bind fun z => if z = true then .ok true else g ρ
@[simp] def xNotT (f : En → R Bool) : En → R Bool := fun ρ => (f ρ).bind fun z => .ok (!z)
@[simp] def xAnd (f g : En → R PyData) : En → R PyData := fun ρ => (f ρ).bind fun d => match d with
  | .bool z => if z = true then g ρ else .ok (.bool false)
  | _ => .bad
@[simp] def xOr (f g : En → R PyData) : En → R PyData := fun ρ => (f ρ).bind fun d => match d with
  | .bool z => if z = true then .ok (.bool true) else g ρ
  | _ => .bad
@[simp] def xNot (f : En → R PyData) : En → R PyData := fun ρ => (f ρ).bind fun d => match d with
  | .bool z => .ok (.bool (!z))
  | _ => .bad
@[simp] def xNeg (f : En → R PyData) : En → R PyData := fun ρ => (f ρ).bind fun d => match d with
  | .int i => .ok (.int (-i))
  | _ => .bad
@[simp] def xIf (t : En → R Bool) (f g : En → R PyData) : En → R PyData := fun ρ => (t ρ).bind fun z => if z = true then f ρ else g ρ
/-- a op b op' c, b asked once -/
@[simp] def xChT (op op' : PyData → PyData → R PyData) (fa fb fc : En → R PyData) : En → R Bool := fun ρ => (fa ρ).bind fun x => (fb ρ).bind fun y => (op x y).bind fun z => match z with
  | .bool b => if b = true then (fc ρ).bind fun w => (op' y w).bind fun z' => (match z' with | .bool b' => .ok b' | _ => .bad) else .ok false
  | _ => .bad
section
variable {X : Cx} {c : Cc} {e a b d : Expr} {rest : List Expr} {f g : En → R PyData} {t u : En → R Bool} {pos : Pos}
theorem wAnd1 (h : PT X a (tT X.K c t)) : PW X (.BoolOp .And [a] pos) (tT X.K c t) := pw_and1 h
theorem wOr1 (h : PT X a (tT X.K c t)) : PW X (.BoolOp .Or [a] pos) (tT X.K c t) := pw_or1 h
theorem wAnd (ha : PT X a (tT X.K c t)) (hb : PW X (.BoolOp .And (b :: rest) pos) (tT X.K c u)) : PW X (.BoolOp .And (a :: b :: rest) pos) (tT X.K c (xAndT t u)) := pw_imp (pw_and ha hb) fun σ H Q ⟨F, ρ, r, q⟩ =>
  ⟨F, ρ, r, (Po.bind q).mono fun z F1 H1 _ x1 k => by
    cases z with
    | true => exact iteT ⟨F1, ρ, r.ext x1, k⟩
    | false => exact iteF (k F1 H1 (Ext.refl x1.s))⟩
theorem wOr (ha : PT X a (tT X.K c t)) (hb : PW X (.BoolOp .Or (b :: rest) pos) (tT X.K c u)) : PW X (.BoolOp .Or (a :: b :: rest) pos) (tT X.K c (xOrT t u)) := pw_imp (pw_or ha hb) fun σ H Q ⟨F, ρ, r, q⟩ =>
  ⟨F, ρ, r, (Po.bind q).mono fun z F1 H1 _ x1 k => by
    cases z with
    | true => exact iteT (k F1 H1 (Ext.refl x1.s))
    | false => exact iteF ⟨F1, ρ, r.ext x1, k⟩⟩
theorem tW (h : PW X e (tT X.K c t)) : PT X e (tT X.K c t) := h.pt
theorem tNot' (h : PT X a (tT X.K c t)) : PT X (.UnaryOp .Not a pos) (tT X.K c (xNotT t)) := pt_imp (pt_not h) fun σ H Q ⟨F, ρ, r, q⟩ => ⟨F, ρ, r, (Po.bind q).mono fun z F1 H1 _ x1 k => k F1 H1 (Ext.refl x1.s)⟩
theorem vOne {op : BoolOp} (h : PE X a (tE X.K c f)) : PE X (.BoolOp op [a] pos) (tE X.K c f) := pe_one h
theorem vAnd (ha : PE X a (tE X.K c f)) (hb : PE X (.BoolOp .And (b :: rest) pos) (tE X.K c g)) : PE X (.BoolOp .And (a :: b :: rest) pos) (tE X.K c (xAnd f g)) := pe_imp (pe_and ha hb) fun σ H Q ⟨F, ρ, r, q⟩ =>
  ⟨F, ρ, r, (Po.bind q).mono fun d F1 H1 _ x1 k v rv => by
    cases rv with
    | bl z =>
      cases z with
      | true => exact ⟨true, rfl, iteT ⟨F1, ρ, r.ext x1, k⟩⟩
      | false => exact ⟨false, rfl, iteF (k F1 H1 (Ext.refl x1.s) _ (.bl false))⟩
    | non => exact k.elim
    | int _ => exact k.elim
    | str _ => exact k.elim
    | lst _ _ => exact k.elim
    | tup _ _ => exact k.elim
    | dct _ _ => exact k.elim⟩
theorem vOr (ha : PE X a (tE X.K c f)) (hb : PE X (.BoolOp .Or (b :: rest) pos) (tE X.K c g)) : PE X (.BoolOp .Or (a :: b :: rest) pos) (tE X.K c (xOr f g)) := pe_imp (pe_or ha hb) fun σ H Q ⟨F, ρ, r, q⟩ =>
  ⟨F, ρ, r, (Po.bind q).mono fun d F1 H1 _ x1 k v rv => by
    cases rv with
    | bl z =>
      cases z with
      | true => exact ⟨true, rfl, iteT (k F1 H1 (Ext.refl x1.s) _ (.bl true))⟩
      | false => exact ⟨false, rfl, iteF ⟨F1, ρ, r.ext x1, k⟩⟩
    | non => exact k.elim
    | int _ => exact k.elim
    | str _ => exact k.elim
    | lst _ _ => exact k.elim
    | tup _ _ => exact k.elim
    | dct _ _ => exact k.elim⟩
theorem eNot (h : PE X a (tE X.K c f)) : PE X (.UnaryOp .Not a pos) (tE X.K c (xNot f)) := pe_imp (pe_not h) fun σ H Q ⟨F, ρ, r, q⟩ =>
  ⟨F, ρ, r, (Po.bind q).mono fun d F1 H1 _ x1 k v rv => by
    cases rv with
    | bl z => exact ⟨z, rfl, k F1 H1 (Ext.refl x1.s) _ (.bl _)⟩
    | non => exact k.elim
    | int _ => exact k.elim
    | str _ => exact k.elim
    | lst _ _ => exact k.elim
    | tup _ _ => exact k.elim
    | dct _ _ => exact k.elim⟩
theorem eNeg (h : PE X a (tP X.K c f)) : PE X (.UnaryOp .USub a pos) (tE X.K c (xNeg f)) := pe_imp (pe_un un_neg h) fun σ H Q ⟨F, ρ, r, q⟩ =>
  ⟨F, ρ, r, (Po.bind q).mono fun d F1 H1 _ x1 k v rv => by
    cases rv with
    | int z => exact ⟨z, rfl, k F1 H1 (Ext.refl x1.s) _ (.int _)⟩
    | non => exact k.elim
    | bl _ => exact k.elim
    | str _ => exact k.elim
    | lst _ _ => exact k.elim
    | tup _ _ => exact k.elim
    | dct _ _ => exact k.elim⟩
theorem eIfE (ht : PT X e (tT X.K c t)) (ha : PE X a (tE X.K c f)) (hb : PE X b (tE X.K c g)) : PE X (.IfExp e a b pos) (tE X.K c (xIf t f g)) := pe_imp (pe_ifExp ht ha hb) fun σ H Q ⟨F, ρ, r, q⟩ =>
  ⟨F, ρ, r, (Po.bind q).mono fun z F1 H1 _ x1 k => by
    cases z with
    | true => exact iteT ⟨F1, ρ, r.ext x1, k⟩
    | false => exact iteF ⟨F1, ρ, r.ext x1, k⟩⟩
theorem tCh {o o' : CmpOp} {rr rr' : R2} {op op' : PyData → PyData → R PyData} {fa fb fc : En → R PyData} (ho : OpR X (compareOp o) rr) (A : AO X.K rr op) (ho' : OpR X (compareOp o') rr') (A' : AO X.K rr' op') (ha : PE X a (tP X.K c fa)) (hb : PE X b (tP X.K c fb)) (hd : PE X d (tP X.K c fc))
    (hm : lastMarks [o, o'] [b, d] = false := by with_unfolding_all rfl) : PT X (.Compare a [o, o'] [b, d] pos) (tT X.K c (xChT op op' fa fb fc)) := pt_imp (pt_chain ho ho' ha hb hd hm) fun σ H Q ⟨F, ρ, r, q⟩ =>
  ⟨F, ρ, r, (Po.bind q).mono fun x F1 H1 _ x1 k v rv => ⟨F1, ρ, r.ext x1, (Po.bind k).mono fun y F2 H2 _ x2 k w rw' => by
    have r2 := (r.ext x1).ext x2
    cases hop : op x y with
    | exc n => exact (A.noexc _ _ _ hop).elim
    | bad => rw [hop] at k; exact k.elim
    | ok z =>
      rw [hop] at k
      refine A.sound x y z v w H2 _ (rv.same x2.h) rw' hop fun q1 hq => ?_
      cases z with
      | bool b =>
        cases hq F2
        cases b with
        | false => exact ⟨false, rfl, iteF ⟨false, rfl, k F2 H2 (Ext.refl x2.s)⟩⟩
        | true =>
          have k2 : Po c σ F2 H2 ((fc ρ).bind fun w => (op' y w).bind fun z' => (match z' with | .bool b' => R.ok b' | _ => R.bad)) (fun b _ H' => Q b H') := k
          refine ⟨true, rfl, iteT ⟨F2, ρ, r2, (Po.bind k2).mono fun x' F3 H3 _ x3 k v' rv' => ?_⟩⟩
          cases hop' : op' y x' with
          | exc n => exact (A'.noexc _ _ _ hop').elim
          | bad => rw [hop'] at k; exact k.elim
          | ok z' =>
            rw [hop'] at k
            refine A'.sound y x' z' w v' H3 _ (rw'.same x3.h) rv' hop' fun q2 hq2 => ?_
            cases z' with
            | bool b' => cases hq2 F3; exact ⟨b', rfl, k F3 H3 (Ext.refl x3.s)⟩
            | _ => exact k.elim
      | _ => exact k.elim⟩⟩
def addLD : PyData → PyData → R (List PyData)
  | .list xs, .list ys => if xs.length + ys.length ≤ sizeLine then .ok (xs ++ ys) else .bad
  | _, _ => .bad
def xBL (op : PyData → PyData → R (List PyData)) (fa fb : En → R PyData) : En → R (List PyData) := fun ρ => (fa ρ).bind fun x => (fb ρ).bind fun y => op x y
theorem lAdd {fa fb : En → R PyData} (ha : PE X a (tS X.K c fa)) (hb : PE X b (tS X.K c fb)) : PE X (.BinOp a .Add b pos) (tL X.K c (xBL addLD fa fb)) := pe_imp (pe_op op_catL ha hb) fun σ H Q ⟨F, ρ, rl, q⟩ => by
  refine two_S rl q fun x y v u F2 H2 x2 r2 rv ru g => ?_
  unfold addLD at g
  split at g
  · split at g
    · rename_i xs ys hz
      obtain ⟨a1, w1, rfl, s1, r1⟩ := rv.list x2.s
      obtain ⟨a2, w2, rfl, s2, r2'⟩ := ru.list x2.s
      exact ⟨_, _, _, _, rfl, rfl, s1, s2, by rw [r1.len, r2'.len]; exact hz, fun n hn => g F2 _ (Ext.own x2.s hn) n _ upd_same (x2.s.free hn) (x2.h.free hn) (r1.app r2')⟩
    · exact g.elim
  · exact g.elim
end
@[simp] def xCl (n : Nat) (Fn : List PyData → R PyData) (g : En → R (List PyData)) : En → R PyData := xCall (fun ds => if ds.length = n then Fn ds else .bad) g
/-- a def as it stands behind the top -/
structure DefK (K : Fg) (mg : Str → Option Value) (x : Str) (st : Stmt) : Prop where
  ex : ∃ f fd, Fun K x x st f fd ∧ mg x = some (.ref f)
section
variable {P : Program} {w : World} {K : Fg} {mg : Str → Option Value} {base : Heap}
theorem mk_cal {x : Str} {st : Stmt} {N ps : List Str} {k n : Nat} {ca : Str → Value} {Fn : List PyData → R PyData} {body : En → O} (D : DefK K mg x st) (S : FnScope N ps (defScope st)) (hn : ps.length = n)
    (hb : ∀ (kV doc pm : Value) (an : Option Addr) (cdv ct : Value) (us : List Value), us.length = ps.length → bindArgs (PySem.W.fnOf x x (defArgs st) (defBody st) (defScope st) .none kV doc pm an cdv ct) ⟨us, []⟩ = pure (ps.zip us))
    (hbody : ∀ (f : Addr) (cdv : Value) (A : Around) (outer : List Env) (s : Shared) (H : Hp) (E : XK) (c : Cc), c.ca = ca → Takes (cxOf (L2.CX P w) P w K mg base N x (defScope st) f cdv A outer s H E) c.W → PassesOwn (model P w) (cxOf (L2.CX P w) P w K mg base N x (defScope st) f cdv A outer s H E).A (cxOf (L2.CX P w) P w K mg base N x (defScope st) f cdv A outer s H E).env (cxOf (L2.CX P w) P w K mg base N x (defScope st) f cdv A outer s H E).xe →
      Room k (cxOf (L2.CX P w) P w K mg base N x (defScope st) f cdv A outer s H E).A → PSs (cxOf (L2.CX P w) P w K mg base N x (defScope st) f cdv A outer s H E) (defBody st) (tZ K c body))
    (hF : ∀ ds, ds.length = n → Fn ds = fin (body (env0 N.length ds))) : Cal P w K mg base ca (k + 1) x n Fn := by
  obtain ⟨f, fd, Fu, hm⟩ := D.ex
  exact ⟨f, fd, ps, def_ok Fu S hn (hbody f) hF, hn, hm, Fu.kp, Fu.binds hb⟩
theorem Cal.mono {x : Str} {k j n : Nat} {ca : Str → Value} {Fn : List PyData → R PyData} (C : Cal P w K mg base ca k x n Fn) (h : k ≤ j) : Cal P w K mg base ca j x n Fn := by
  obtain ⟨f, fd, ps, h1, h2⟩ := C.ex
  exact ⟨f, fd, ps, h1.mono h, h2⟩
end
end DL
set_option Elab.async false
set_option linter.all false
set_option maxRecDepth 100000
set_option maxHeartbeats 1000000
/-! dict(pairs); a def of which nothing is told. -/
namespace DL
open PySem PySem.Spec L2
section
variable {P : Program} {w : World} {K : Fg} {mg : Str → Option Value} {base : Heap}
theorem mk_bad {x : Str} {st : Stmt} {N ps : List Str} {k n : Nat} {ca : Str → Value} (D : DefK K mg x st) (S : FnScope N ps (defScope st)) (hn : ps.length = n)
    (hb : ∀ (kV doc pm : Value) (an : Option Addr) (cdv ct : Value) (us : List Value), us.length = ps.length → bindArgs (PySem.W.fnOf x x (defArgs st) (defBody st) (defScope st) .none kV doc pm an cdv ct) ⟨us, []⟩ = pure (ps.zip us)) : Cal P w K mg base ca (k + 1) x n fun _ => .bad :=
  mk_cal (body := fun _ => .bad) D S hn hb (fun f cdv A outer s H E c hca tk hp hr => pss_imp pss_never fun D σ H ⟨F, ρ, r, q⟩ => q) (fun _ _ => rfl)
end
/-- (k, v) pairs -/
def pairsD : List PyData → Option (List (PyData × PyData))
  | [] => some []
  | .tuple [k, v] :: r => if isKey k = true then (pairsD r).map ((k, v) :: ·) else none
  | _ => none
def mergeD (es more : List (PyData × PyData)) : List (PyData × PyData) := more.foldl (fun acc p => putD acc p.1 p.2) es
def dictD : List PyData → R (List (PyData × PyData))
  | [.list ds] => (match pairsD ds with
    | some ps => .ok (mergeD [] ps)
    | none => .bad)
  | _ => .bad
@[simp] def xFD (op : List PyData → R (List (PyData × PyData))) (g : En → R (List PyData)) : En → R (List (PyData × PyData)) := fun ρ => (g ρ).bind op
theorem pairs_of {K : Fg} {F H : Hp} (s : Same F H) : ∀ {vs : List V} {ds : List PyData} {ps : List (PyData × PyData)}, RpA K F vs ds → pairsD ds = some ps → ∃ (as : List Addr) (ks : List (Key × V)), vs = as.map V.ref ∧ Paired (fun p kv => SqT K H p [kV kv.1, kv.2]) as ks ∧ RpK K F ks ps
  | _, _, _, .nil, h => by cases h; exact ⟨[], [], rfl, .nil, .nil⟩
  | _, d :: ds, ps, .cons r t, h => by
    cases d with
    | tuple es =>
      match es, r, h with
      | [k, v], r, h =>
        simp only [pairsD] at h
        split at h
        · rename_i hk
          simp only [Option.map_eq_some_iff] at h
          obtain ⟨ps', h1, h2⟩ := h
          subst h2
          obtain ⟨as, ks, e1, e2, e3⟩ := pairs_of s t h1
          cases r with
          | tup hq rr =>
            cases rr with
            | cons r1 rr =>
              cases rr with
              | cons r2 rr =>
                cases rr
                obtain ⟨kk, rfl, rfl⟩ := key_of r1 hk
                exact ⟨_ :: as, (kk, _) :: ks, by rw [e1]; rfl, .cons (sqT_same s hq) e2, .cons r2 e3⟩
        · cases h
      | [], _, h => simp [pairsD] at h
      | [_], _, h => simp [pairsD] at h
      | _ :: _ :: _ :: _, _, h => simp [pairsD] at h
    | _ => simp [pairsD] at h
theorem RpK.merge {K : Fg} {H : Hp} {ms : List (Key × V)} {ps : List (PyData × PyData)} (hm : RpK K H ms ps) : ∀ {ks : List (Key × V)} {es : List (PyData × PyData)}, RpK K H ks es → RpK K H (mergeK ks ms) (mergeD es ps) := by
  match hm with
  | .nil => intro ks es q; exact q
  | .cons r t => intro ks es q; exact RpK.merge t (RpK.put r q)
theorem dTf {X : Cx} {c : Cc} {e : Expr} {es : List Expr} {g : En → R (List PyData)} {pos p : Pos} (hg : Gl X "dict") (hm : X.mg "dict" = none) (hv : bootBuiltins "dict" = some (.type "dict")) (ha : PA X (e :: es) (tAS X.K c g)) (hcalm : X.calm = true := by rfl)
    (he : starEach (e :: es) X.env = (false, eval e X.env) :: starEach es X.env := by rfl) (hpl : (backTo pos (starEach es X.env)).any (·.1) = false := by rfl) : PE X (.Call (.Name "dict" p) (e :: es) [] pos) (tD X.K c (xFD dictD g)) :=
  pe_imp (pe_callTy (call_dictP hcalm) hg hm hv ha (by decide) (by decide) he hpl) fun σ H Q ⟨F, ρ, rl, q⟩ =>
    ⟨F, ρ, rl, (Po.bind q).mono fun ds F1 H1 _ x1 k vs rvs => by
      unfold dictD at k
      split at k
      · rename_i ds'
        split at k
        · rename_i ps hps
          obtain ⟨v, rfl, rv⟩ := rs1 rvs
          obtain ⟨a, ws, rfl, h1, h2⟩ := rv.list x1.s
          obtain ⟨as, ks, e1, e2, e3⟩ := pairs_of x1.s h2 hps
          rw [e1] at h1
          exact ⟨a, as, ks, rfl, h1, e2, fun p hp => k F1 _ (Ext.own x1.s hp) p _ upd_same (x1.s.free hp) (x1.h.free hp) (RpK.merge e3 .nil)⟩
        · exact k.elim
      · exact k.elim⟩
end DL
set_option Elab.async false
set_option linter.all false
set_option maxRecDepth 100000
set_option maxHeartbeats 1000000
/-! A dict from states (a name, a list of ints) to their places, keyed by (name, tuple of the ints). -/
namespace DL
open PySem PySem.Spec L2
abbrev Std := Str × List Int
def stD (x : Std) : PyData := .tuple [.str x.1, .list (x.2.map .int)]
def keyD (x : Std) : PyData := .tuple [.str x.1, .tuple (x.2.map .int)]
def keyK (x : Std) : NestedKey := .tup [.text x.1, .tup (x.2.map .num)]
theorem nums_inj : ∀ {xs ys : List Int}, xs.map NestedKey.num = ys.map NestedKey.num → xs = ys
  | [], [], _ => rfl
  | [], _ :: _, h => by cases h
  | _ :: _, [], h => by cases h
  | x :: xs, y :: ys, h => by
    rw [List.map_cons, List.map_cons] at h
    injection h with h1 h2
    injection h1 with h1
    rw [h1, nums_inj h2]
theorem keyK_inj {x y : Std} (h : keyK x = keyK y) : x = y := by
  obtain ⟨a, b⟩ := x
  obtain ⟨c, d⟩ := y
  unfold keyK at h
  injection h with h
  injection h with h1 h2
  injection h1 with h1
  injection h2 with h2 _
  injection h2 with h2
  dsimp only at h1 h2
  rw [h1, nums_inj h2]
theorem depth_nums : ∀ xs : List Int, NestedKey.depthAll (xs.map .num) = 0
  | [] => rfl
  | x :: xs => by
    rw [List.map_cons]
    show max 0 (NestedKey.depthAll (xs.map .num)) = 0
    rw [depth_nums xs]; rfl
theorem keyK_depth (x : Std) : (keyK x).depth ≤ 8 := by
  show max 0 (max (NestedKey.depthAll (x.2.map .num) + 1) 0) + 1 ≤ 8
  rw [depth_nums]; decide
inductive Ents : Nat → List Std → List Addr → List (NestedKey × Addr × Value) → Prop
  | nil (i : Nat) : Ents i [] [] []
  | cons {i : Nat} {st : Std} {sts : List Std} {a : Addr} {as : List Addr} {xs : List (NestedKey × Addr × Value)} {t : Nat} : Ents (i + 1) sts as xs → Ents i (st :: sts) (a :: as) ((keyK st, a, .int (i : Int) t) :: xs)
theorem Ents.snoc {st : Std} {a : Addr} {t : Nat} : ∀ {i : Nat} {sts : List Std} {as : List Addr} {xs : List (NestedKey × Addr × Value)}, Ents i sts as xs → Ents i (sts ++ [st]) (as ++ [a]) (xs ++ [(keyK st, a, .int ((i + sts.length : Nat) : Int) t)])
  | i, _, _, _, .nil _ => .cons (.nil _)
  | i, _, _, _, .cons (sts := sts) r => by
    have := Ents.snoc (st := st) (a := a) (t := t) r
    rw [List.length_cons]
    have e : i + (sts.length + 1) = i + 1 + sts.length := by omega
    rw [e]
    exact .cons this
theorem Ents.len : ∀ {i : Nat} {sts : List Std} {as : List Addr} {xs : List (NestedKey × Addr × Value)}, Ents i sts as xs → xs.length = sts.length ∧ as.length = sts.length
  | _, _, _, _, .nil _ => ⟨rfl, rfl⟩
  | _, _, _, _, .cons r => by simp [r.len.1, r.len.2]
theorem Ents.keys : ∀ {i : Nat} {sts : List Std} {as : List Addr} {xs : List (NestedKey × Addr × Value)}, Ents i sts as xs → xs.map (·.1) = sts.map keyK
  | _, _, _, _, .nil _ => rfl
  | _, _, _, _, .cons r => by rw [List.map_cons, List.map_cons, r.keys]
theorem nodup_keys : ∀ {sts : List Std}, sts.Nodup → (sts.map keyK).Nodup
  | [], _ => List.nodup_nil
  | s :: sts, h => by
    rw [List.nodup_cons] at h
    rw [List.map_cons, List.nodup_cons]
    refine ⟨fun q => ?_, nodup_keys h.2⟩
    obtain ⟨y, h1, h2⟩ := List.mem_map.mp q
    exact h.1 (keyK_inj h2 ▸ h1)
theorem Ents.none {st : Std} : ∀ {i : Nat} {sts : List Std} {as : List Addr} {xs : List (NestedKey × Addr × Value)}, Ents i sts as xs → st ∉ sts → atKey xs (keyK st) = none
  | _, _, _, _, .nil _, _ => rfl
  | _, _, _, _, .cons (st := s) r, h => by
    have h1 : ¬ keyK s = keyK st := fun e => h (by rw [keyK_inj e]; exact List.mem_cons_self)
    have h2 := r.none (fun q => h (List.mem_cons_of_mem _ q))
    unfold atKey at h2 ⊢
    rw [List.find?_cons]
    simp only [h1, decide_false]
    exact h2
theorem Ents.some {st : Std} : ∀ {i : Nat} {sts : List Std} {as : List Addr} {xs : List (NestedKey × Addr × Value)}, Ents i sts as xs → st ∈ sts → ∃ a t, atKey xs (keyK st) = some (a, .int ((i + sts.idxOf st : Nat) : Int) t)
  | _, _, _, _, .nil _, h => by cases h
  | i, _, _, _, .cons (st := s) (sts := sts) (a := a) (t := t) r, h => by
    by_cases e : s = st
    · subst e
      refine ⟨a, t, ?_⟩
      unfold atKey
      rw [List.find?_cons]
      simp
    · have h1 : ¬ keyK s = keyK st := fun q => e (keyK_inj q)
      have h3 : st ∈ sts := by
        rcases List.mem_cons.mp h with q | q
        · exact absurd q.symm e
        · exact q
      obtain ⟨b, u, h2⟩ := r.some h3
      refine ⟨b, u, ?_⟩
      have e2 : (s :: sts).idxOf st = sts.idxOf st + 1 := by
        rw [List.idxOf_cons]
        have : (s == st) = false := by simpa using e
        rw [this]; rfl
      rw [e2]
      unfold atKey at h2 ⊢
      rw [List.find?_cons]
      simp only [h1, decide_false]
      have e3 : i + (sts.idxOf st + 1) = i + 1 + sts.idxOf st := by omega
      rw [e3]
      exact h2
def numO (P : Program) (w : World) (d : Addr) (sts : List Std) (as : List Addr) : HO :=
  .ext fun h => (d == sysModules) = false ∧ ∃ o es ep xs, h.get? d = some o ∧ o.ExactDict ∧ o.data = .dict es ep ∧ es.toList = xs.map (entryOfKey (nestedKind P w)) ∧ Ents 0 sts as xs
theorem numO_ok {P : Program} {w : World} {H : Hp} {h : Heap} {d : Addr} {sts : List Std} {as : List Addr} {o : Obj} {es : Array DictEntry} {ep : Nat} {xs : List (NestedKey × Addr × Value)} (hd : (d == sysModules) = false) (ho : h.get? d = some o) (hc : o.ExactDict) (hdt : o.data = .dict es ep)
    (he : es.toList = xs.map (entryOfKey (nestedKind P w))) (hx : Ents 0 sts as xs) : ObjOk P w H h d (numO P w d sts as) :=
  ⟨⟨hd, o, es, ep, xs, ho, hc, hdt, he, hx⟩, ⟨o, ho⟩, fun h1 h2 ⟨a, o, es, ep, xs, b, r⟩ st => ⟨a, o, es, ep, xs, st _ b, r⟩⟩
theorem nums_is {P : Program} {w : World} {h : Heap} : ∀ {ns : List Int} {its : List Value}, Vals (ns.map V.int) its → NestedAll h (ns.map .num) its
  | [], _, r => by
    rw [List.map_nil] at r
    cases r; exact .nil
  | n :: ns, _, r => by
    rw [List.map_cons] at r
    cases r with
    | cons a b =>
      obtain ⟨t, rfl⟩ := (show ∃ t, _ = Value.int n t from a)
      exact .cons (.int n t) (nums_is (P := P) (w := w) b)
section
variable {X : Cx} {pins : List (Addr × Obj)} {σ : St} {H : Hp} {s : Shared} {d : Addr} {st : Std} {sts : List Std} {as : List Addr}
theorem key_is (I : Inv X pins σ H s) {v : V} {u : Value} (r : Rp X.K H v (keyD st)) (rv : RelV v u) : ∃ a, v = .ref a ∧ u = .ref a ∧ (nestedKind X.prog X.w).is s.heap (keyK st) a := by
  unfold keyD at r
  cases r with
  | tup h1 h2 =>
    rename_i a vs
    cases h2 with
    | cons r1 h2 =>
      cases h2 with
      | cons r2 h2 =>
        cases h2
        cases r1
        cases r2 with
        | tup k1 k2 =>
          rename_i b ws
          obtain rfl := RpA.ints' k2
          obtain rfl : u = Value.ref a := rv
          obtain ⟨its, v1, ⟨o, e1, e2, n, e3⟩, _⟩ := I.tuple h1
          obtain ⟨its2, v2, ⟨o2, f1, f2, n2, f3⟩, _⟩ := I.tuple k1
          refine ⟨a, rfl, rfl, ?_, keyK_depth st⟩
          cases v1 with
          | cons x1 v1 =>
            cases v1 with
            | cons x2 v1 =>
              cases v1
              obtain ⟨t, rfl⟩ := (show ∃ t, _ = Value.str st.1 t from x1)
              obtain rfl := (show _ = Value.ref b from x2)
              exact .tup e1 e2 e3 (.cons (.text _ _) (.cons (.tup f1 f2 f3 (by simpa using nums_is (P := X.prog) (w := X.w) v2)) .nil))
theorem num_at (I : Inv X pins σ H s) (e : H d = some (numO X.prog X.w d sts as)) (k : RpA X.K H (as.map V.ref) (sts.map keyD)) (nd : sts.Nodup) :
    (d == sysModules) = false ∧ ∃ xs, Ents 0 sts as xs ∧ s.heap.DictOfH (nestedKind X.prog X.w) d xs := by
  obtain ⟨⟨hd, o, es, ep, xs, h1, h2, h3, h4, h5⟩, _⟩ := (show ObjOk X.prog X.w H s.heap d (numO X.prog X.w d sts as) from I.hok d _ e)
  refine ⟨hd, xs, h5, o, es, ep, h1, h2, h3, h4, ?_, by rw [h5.keys]; exact nodup_keys nd⟩
  have all : ∀ {i : Nat} {sts : List Std} {as : List Addr} {xs : List (NestedKey × Addr × Value)}, Ents i sts as xs → RpA X.K H (as.map V.ref) (sts.map keyD) → ∀ x ∈ xs, (nestedKind X.prog X.w).is s.heap x.1 x.2.1 := by
    intro i sts as xs q
    induction q with
    | nil => intro _ x hx; cases hx
    | cons q ih =>
      intro r x hx
      rw [List.map_cons, List.map_cons] at r
      cases r with
      | cons r1 r2 =>
        rcases List.mem_cons.mp hx with e | hx
        · subst e
          obtain ⟨a', e1, e2, e3⟩ := key_is I r1 rfl
          cases e1
          exact e3
        · exact ih r2 x hx
  exact all h5 k
theorem num_typeIs (I : Inv X pins σ H s) (e : H d = some (numO X.prog X.w d sts as)) : s.TypeIs (.ref d) "dict" := by
  obtain ⟨⟨hd, o, es, ep, xs, h1, h2, _⟩, _⟩ := (show ObjOk X.prog X.w H s.heap d (numO X.prog X.w d sts as) from I.hok d _ e)
  exact ⟨o, h1, h2.1⟩
end
/-- the dict at d holds the states sts -/
structure Nm (P : Program) (w : World) (K : Fg) (H : Hp) (d : Addr) (sts : List Std) (as : List Addr) : Prop where
  at_ : H d = some (numO P w d sts as)
  keys : RpA K H (as.map V.ref) (sts.map keyD)
  nd : sts.Nodup
def rNmNin (P : Program) (w : World) (K : Fg) : R2 := fun x y H Q => ∃ d st sts as, y = .ref d ∧ Nm P w K H d sts as ∧ Rp K H x (keyD st) ∧ Q (.bl (!decide (st ∈ sts))) H
theorem op_nmNin {X : Cx} {k : Nat} (hr : Room k X.A) : OpR X (compareOp .NotIn) (rNmNin X.prog X.w X.K) := by
  intro pins s σ H x y v u Q I rx ry ⟨d, st, sts, as, e, N, r, q⟩
  subst e
  cases ry
  obtain ⟨a, rfl, rfl, hk⟩ := key_is I r rx
  obtain ⟨hd, xs, hx, dd⟩ := num_at I N.at_ N.keys N.nd
  have hu := Room.u65 hr
  refine PyProof.Rows.wpAny_notIn_heap (by show X.A.units + 1 + 8 < cLine; omega) hk hd dd ⟨.bl _, H, I.tok _, rfl, ?_⟩
  by_cases h : st ∈ sts
  · obtain ⟨b, t, e2⟩ := hx.some h
    rw [e2]
    simpa [h] using q
  · rw [hx.none h]
    simpa [h] using q
/-- d[key], there -/
def tNmGet (P : Program) (w : World) (K : Fg) (td ty : TE) : TE := fun σ H Q => td σ H fun x H1 => ty σ H1 fun y H2 => ∃ d st sts as, x = .ref d ∧ Nm P w K H2 d sts as ∧ Rp K H2 y (keyD st) ∧ st ∈ sts ∧ Q (.int (sts.idxOf st : Nat)) H2
theorem pe_nmGet {X : Cx} {o i : Expr} {pos : Pos} {td ty : TE} {k : Nat} (hr : Room k X.A) (ho : PE X o td) (hi : PE X i ty) (hs : NoSl i := by exact fun _ _ => rfl) : PE X (.Subscript o i pos) (tNmGet X.prog X.w X.K td ty) := by
  refine ⟨fun pins s σ H Q I h => ?_⟩
  refine subD_of PySem.F.slot_dict_getitem.lookup hs (thn (ho.run pins s σ H _ I h) fun u s1 ⟨x, H1, I1, rx, q1⟩ => thn (hi.run pins s1 σ H1 _ I1 q1) fun iv s2 ⟨y, H2, I2, ry, d, st, sts, as, ex, N, r, hm, q2⟩ => ?_)
  subst ex
  obtain rfl : u = Value.ref d := rx
  obtain ⟨a, rfl, rfl, hk⟩ := key_is I2 r ry
  obtain ⟨hd, xs, hx, dd⟩ := num_at I2 N.at_ N.keys N.nd
  obtain ⟨b, t, e2⟩ := hx.some hm
  have hu := Room.u65 hr
  rw [Nat.zero_add] at e2
  exact ⟨num_typeIs I2 N.at_, wpAny_getItem_heap (by show X.A.units + 1 + 8 < cLine; omega) hk dd e2 ⟨.int (sts.idxOf st : Nat), H2, I2.tok _, ⟨t, rfl⟩, q2⟩⟩
/-- d[key] = len, new -/
def sNmPut (P : Program) (w : World) (K : Fg) (td ty tv : TE) : TS := fun D σ H => tv σ H fun v H1 => td σ H1 fun x H2 => ty σ H2 fun y H3 => ∃ d st sts as a, x = .ref d ∧ y = .ref a ∧ v = .int (sts.length : Nat) ∧ Nm P w K H3 d sts as ∧ Rp K H3 y (keyD st) ∧ st ∉ sts ∧ sts.length ≤ 1000 ∧
  D.nx σ (upd H3 d (numO P w d (sts ++ [st]) (as ++ [a])))
theorem ps_nmPut {X : Cx} {o i value : Expr} {pos pos' : Pos} {td ty tv : TE} {k : Nat} (hr : Room k X.A) (ho : PE X o td) (hi : PE X i ty) (hv : PE X value tv) (hs : swapsWith value (some (.Subscript o i pos')) pos.line X.env = pure false := by rfl) :
    PS X (.Assign [.Subscript o i pos'] value pos) (sNmPut X.prog X.w X.K td ty tv) := by
  refine ⟨fun pins s σ H D I h => ?_⟩
  refine wpAny_Assign_Subscript (thn (hv.run pins s σ H _ I h) fun r s1 ⟨v, H1, I1, rv, q1⟩ => thn (ho.run pins s1 σ H1 _ I1 q1) fun u s2 ⟨x, H2, I2, rx, q2⟩ => thn (hi.run pins s2 σ H2 _ I2 q2) fun iv s3 ⟨y, H3, I3, ry, d, st, sts, as, a, ex, ey, ev, N, rk, hn, hz, q3⟩ => ?_) hs
  subst ex ey ev
  obtain rfl : u = Value.ref d := rx
  obtain ⟨t, rfl⟩ := (show ∃ t, r = Value.int (sts.length : Nat) t from rv)
  obtain ⟨a', e1, rfl, hk⟩ := key_is I3 rk ry
  cases e1
  obtain ⟨hd, xs, hx, dd⟩ := num_at I3 N.at_ N.keys N.nd
  have hu := Room.u65 hr
  have hl := hx.len.1
  refine wpAny_setItem_heap (hsz := by rw [hl, sizeLine_eq]; omega) (by show X.A.units + 1 + 8 < cLine; omega) hk dd fun h' dd' hs' => ?_
  rw [storedH_new (hx.none hn)] at dd'
  obtain ⟨q, es, ep, hq, h2, h3, h4, _, h5⟩ := dd'
  have hx' := hx.snoc (st := st) (a := a) (t := t)
  rw [Nat.zero_add] at hx'
  exact ⟨σ, _, d_write I3 (by rw [N.at_]; exact True.intro) hs' ⟨q, hq⟩ (numO_ok hd hq h2 h3 h4 hx'), q3⟩
/-- {key: 0} -/
def tNmNew (P : Program) (w : World) (K : Fg) (ty tv : TE) : TE := fun σ H Q => ∀ p, H p = none → ty σ (upd H p (numO P w p [] [])) fun y H1 => tv σ H1 fun v H2 => ∃ st a, v = .int 0 ∧ y = .ref a ∧ H2 p = some (numO P w p [] []) ∧ Rp K H2 y (keyD st) ∧
  Q (.ref p) (upd H2 p (numO P w p [st] [a]))
theorem pe_nmNew {X : Cx} {i value : Expr} {pos : Pos} {ty tv : TE} {k : Nat} (hr : Room k X.A) (hi : PE X i ty) (hv : PE X value tv) : PE X (.Dict [some i] [value] pos) (tNmNew X.prog X.w X.K ty tv) := by
  refine ⟨fun pins s σ H Q I q => ?_⟩
  have hn := I.hok.fresh (Nat.le_refl s.heap.objs.size)
  have hd : (s.heap.objs.size == sysModules) = false := beq_eq_false_iff_ne.mpr (Ne.symm (Nat.ne_of_lt I.big))
  have I1 := I.laid (a := s.heap.objs.size) (o := numO X.prog X.w s.heap.objs.size [] []) (h' := s.heap.push { cls := .type "dict", data := .dict #[] }) (t' := s.toks) (fun _ _ q => Heap.get?_push_of_some _ q) (Nat.le_refl _)
    (numO_ok hd (Heap.get?_push_size _ rfl) ⟨rfl, rfl, rfl⟩ rfl rfl (.nil 0))
  have hu := Room.u65 hr
  have hsh : (evalEachOpt [some i] X.env).zip ((evalEach [value] X.env).map fun v => do let x ← v; standAt pos; pure x) = (pairTrees [some i] [value] X.env pos).map fun p => (some p.1, p.2) := rfl
  rw [arm_eval_Dict, hsh, dictDisplay_pairs _ (by intro h; cases h) (by show 1 < 17; decide)]
  refine wpAny_bind (wpAny_standAt (wpAny_bind ?_))
  refine wpAny_subDictH (knd := nestedKind X.prog X.w) (by show X.A.units + 8 < cLine; omega) (by show 1 ≤ 15; decide) ?_
  refine pairTrees_cons_walk (thn (hi.run pins _ σ _ _ I1 (q _ hn)) fun kv s1 ⟨y, H1, I2, ry, q1⟩ => thn (hv.run pins s1 σ H1 _ I2 q1) fun vv s2 ⟨v, H2, I3, rv, st, a, ev, ey, e, rk, q2⟩ => pairTrees_nil_walk ?_)
  subst ev ey
  obtain ⟨t, rfl⟩ := (show ∃ t, vv = Value.int 0 t from rv)
  obtain ⟨a', e1, rfl, hk⟩ := key_is I3 rk ry
  cases e1
  obtain ⟨_, xs, hx, dd⟩ := num_at I3 e .nil List.nodup_nil
  cases hx
  refine ⟨[(keyK st, a, .int 0 t)], ⟨rfl, rfl, hk, trivial⟩, dd, fun h' tk dd' hs => wpAny_pure ?_⟩
  obtain ⟨o, es, ep, h1, h2, h3, h4, _, _⟩ := dd'
  exact ⟨.ref s.heap.objs.size, _, d_write I3 (by rw [e]; exact True.intro) hs ⟨o, h1⟩ (numO_ok hd h1 h2 h3 h4 (.cons (.nil _))), rfl, q2⟩
end DL
set_option Elab.async false
set_option linter.all false
set_option maxRecDepth 100000
set_option maxHeartbeats 1000000
/-! New values; a def that hands back a new value. -/
namespace DL
open PySem PySem.Spec L2
def tN (K : Fg) (c : Cc) (f : En → R PyData) : TE := fun σ H Q => ∃ F ρ, Same c.Hn c.H0 ∧ Rl K c F H ρ σ ∧ Po c σ F H (f ρ) fun d F' H' => ∀ v, Rn K c.Hn F' v d → Q v H'
def tAN (K : Fg) (c : Cc) (f : En → R (List PyData)) : TA := fun σ H Q => ∃ F ρ, Same c.Hn c.H0 ∧ Rl K c F H ρ σ ∧ Po c σ F H (f ρ) fun ds F' H' => ∀ vs, RnA K c.Hn F' vs ds → Q vs H'
@[simp] def xNw (i : Nat) : En → R PyData := fun ρ => match ρ[i]? with
  | some (.nw d) => .ok d
  | _ => .bad
@[simp] def xNo (f : En → R PyData) : En → R PyData := fun ρ => (f ρ).bind fun d => if nolist d = true then .ok d else .bad
@[simp] def xNL (f : En → R (List PyData)) : En → R PyData := fun ρ => (f ρ).bind fun ds => if nolists ds = true then .ok (.list ds) else .bad
section
variable {X : Cx} {c : Cc} {e a b : Expr} {es : List Expr} {f : En → R PyData} {g : En → R (List PyData)} {pos : Pos}
theorem nVar (i : Nat) {x : Str} (hN : X.N[i]? = some x := by rfl) (hv : Vis X.env.scope x := by first | exact Or.inl rfl | exact Or.inr (Or.inl rfl) | exact Or.inr (Or.inr rfl)) (hd : (x == ("__debug__" : Str)) = false := by decide)
    (hcd : (x == ("__classdict__" : Str)) = false := by decide) : PE X (.Name x pos) (tN X.K c (xNw i)) := pe_imp (pe_var hN hv hd hcd) fun σ H Q ⟨F, ρ, hn, r, q⟩ => by
  unfold xNw at q
  split at q
  · rename_i d hs
    obtain ⟨v, e, rv⟩ := r.at_ i _ hs
    exact ⟨v, e, q F H (Ext.refl r.s) v rv⟩
  · exact q.elim
theorem nNo (h : PE X e (tE X.K c f)) : PE X e (tN X.K c (xNo f)) := pe_imp h fun σ H Q ⟨F, ρ, hn, r, q⟩ =>
  ⟨F, ρ, r, (Po.bind q).mono fun d F1 H1 _ x1 k v rv => by
    by_cases hz : nolist d = true
    · rw [if_pos hz] at k
      exact k F1 H1 (Ext.refl x1.s) v (rv.rn hz)
    · rw [if_neg hz] at k; exact k.elim⟩
theorem Ext.froze {F H F' H' : Hp} {p : Addr} {o : HO} (x : Ext F H F' H') (hp : H' p = some o) (fp : F' p = none) (np : H p = none) : Ext F H (upd F' p o) H' :=
  ⟨x.f.trans (same_new fp), x.h, Same.freeze x.s hp, fun b u e => by
    by_cases z : b = p
    · subst z; exact Or.inr np
    · rw [upd_ne z] at e; exact x.n b u e⟩
theorem nL {f : En → R (List PyData)} (h : PE X e (tL X.K c f)) : PE X e (tN X.K c (xNL f)) := pe_imp h fun σ H Q ⟨F, ρ, hn, r, q⟩ =>
  ⟨F, ρ, r, (by
    have q := Po.bind q
    generalize hy : f ρ = y at q ⊢
    cases y with
    | ok ds =>
      refine fun F1 H1 x1 p vs hp fp np rv => ?_
      have k := q F1 H1 x1
      dsimp only at k
      by_cases hz : nolists ds = true
      · rw [if_pos hz] at k
        have x2 := (Ext.refl x1.s).froze hp fp
        have sm : Same F1 (upd F1 p (.lst vs)) := same_new fp
        have x3 : Ext F H (upd F1 p (.lst vs)) H1 := x1.froze hp fp np
        have q2 := q (upd F1 p (.lst vs)) H1 x3
        dsimp only at q2
        rw [if_pos hz] at q2
        refine q2 _ H1 (Ext.refl x3.s) _ (.lst upd_same (hn.free (r.e.h.free np)) ((rv.same sm).rn hz))
      · rw [if_neg hz] at k; exact k.elim
    | exc n => exact q
    | bad => exact q)⟩
theorem naNil : PA X [] (tAN X.K c xNil) := pa_imp pa_nil fun σ H Q ⟨F, ρ, hn, r, q⟩ => q F H (Ext.refl r.s) [] .nil
theorem naCons (ha : PE X e (tN X.K c f)) (hr : PA X es (tAN X.K c g)) (hs : starEach (e :: es) X.env = (false, eval e X.env) :: starEach es X.env := by rfl) : PA X (e :: es) (tAN X.K c (xCons f g)) := pa_imp (pa_cons ha hr hs) fun σ H Q ⟨F, ρ, hn, r, q⟩ =>
  ⟨F, ρ, hn, r, (Po.bind q).mono fun d F1 H1 _ x1 k v rv => ⟨F1, ρ, hn, r.ext x1, (Po.bind k).mono fun ds F2 H2 _ x2 k2 vs rvs => k2 F2 H2 (Ext.refl x2.s) _ (.cons (rv.same x2.f) rvs)⟩⟩
theorem nTup {x1} (h : PA X es (tAN X.K c g)) : PE X (.Tuple es x1 pos) (tN X.K c (xTup g)) := pe_imp (pe_tup h) fun σ H Q ⟨F, ρ, hn, r, q⟩ =>
  ⟨F, ρ, hn, r, (Po.bind q).mono fun ds F1 H1 _ x1 k vs rvs => by
    by_cases hz : ds.length ≤ sizeLine
    · rw [if_pos hz] at k
      exact ⟨by rw [rvs.len]; exact hz, fun p hp => k _ _ (Ext.new x1.s hp) _ (.tup (.of upd_same) (rvs.same (Ext.new x1.s hp).f))⟩
    · rw [if_neg hz] at k; exact k.elim⟩
end
/-! ### a def that hands back a new value -/
def OoN (K : Fg) (c : Cc) (F : Hp) (D : Ends) : O → Prop
  | .nx ρ => ∀ F' H' σ', Same F F' → Rl K c F' H' ρ σ' → D.nx σ' H'
  | .rt d => ∀ F' H' v, Ext c.F0 c.H0 F' H' → Rn K c.Hn F' v d → D.rt v H'
  | .ex n _ => ∀ H' σ', Same c.H0 H' → c.W (c.ca n) none σ' H'
  | .bad => False
theorem OoN.mono {K : Fg} {c : Cc} {F F1 : Hp} {D : Ends} {o : O} (h : OoN K c F D o) (s : Same F F1) : OoN K c F1 D o := by
  cases o with
  | nx ρ => exact fun F' H' σ' s' r => h F' H' σ' (s.trans s') r
  | rt d => exact h
  | ex n ρ => exact h
  | bad => exact h
def tZN (K : Fg) (c : Cc) (f : En → O) : TS := fun D σ H => ∃ F ρ, Same c.Hn c.H0 ∧ Rl K c F H ρ σ ∧ OoN K c F D (f ρ)
@[simp] def noRt (g : En → O) : En → O := fun ρ => match g ρ with
  | .rt _ => .bad
  | o => o
section
variable {X : Cx} {c : Cc} {st : Stmt} {rest : List Stmt} {e : Expr} {f : En → R PyData} {g h : En → O} {pos pos' : Pos}
theorem nLift (h1 : PS X st (tZ X.K c g)) : PS X st (tZN X.K c (noRt g)) := ps_imp h1 fun D σ H ⟨F, ρ, hn, r, q⟩ => by
  refine ⟨F, ρ, r, ?_⟩
  unfold noRt at q
  cases hg : g ρ with
  | nx ρ' => rw [hg] at q; exact q
  | rt d => rw [hg] at q; exact q.elim
  | ex n ρ' => rw [hg] at q; exact fun F' H' σ' r' => q H' σ' r'.e.h
  | bad => rw [hg] at q; exact q
theorem nOne (h1 : PS X st (tZN X.K c g)) : PSs X [st] (tZN X.K c g) := pss_one h1
theorem nCons (h1 : PS X st (tZN X.K c g)) (h2 : PSs X rest (tZN X.K c h)) : PSs X (st :: rest) (tZN X.K c (yCons g h)) := pss_imp (pss_cons h1 h2) fun D σ H ⟨F, ρ, hn, r, q⟩ => by
  refine ⟨F, ρ, hn, r, ?_⟩
  unfold yCons at q
  cases hg : g ρ with
  | nx ρ' => rw [hg] at q; exact fun F' H' σ' s r' => ⟨F', ρ', hn, r', q.mono s⟩
  | rt d => rw [hg] at q; exact q
  | ex n ρ' => rw [hg] at q; exact q
  | bad => rw [hg] at q; exact q
theorem OoN.po {F H : Hp} {ρ : En} {σ : St} {D : Ends} {α : Type} {K : Fg} {r : R α} {k : α → O} (rl : Rl K c F H ρ σ) (h : OoN K c F D (bO r ρ k)) : Po c σ F H r fun a F' H' => OoN K c F' D (k a) := by
  cases r with
  | ok a => exact fun F' H' x => OoN.mono h x.f
  | exc n => exact fun F' H' x => h H' σ (rl.e.h.trans x.h)
  | bad => exact h
theorem nRet (he : PE X e (tN X.K c f)) : PS X (.Return (some e) pos) (tZN X.K c (yRet f)) := ps_imp (ps_ret he) fun D σ H ⟨F, ρ, hn, r, q⟩ =>
  ⟨F, ρ, hn, r, (OoN.po r q).mono fun d F' H' _ x k v rv => k F' H' v (r.e.trans x) rv⟩
@[simp] def ySetN (i : Nat) (f : En → R PyData) : En → O := fun ρ => bO (f ρ) ρ fun d => .nx (ρ.set i (.nw d))
/-- x = e, e new -/
theorem nSet (i : Nat) {x : Str} (nd : X.N.Nodup) (he : PE X e (tN X.K c f)) (hi : X.N[i]? = some x := by rfl) (hx : Loc X.env.scope x := by first | exact Or.inl rfl | exact Or.inr rfl) (hs : swapsWith e (some (.Name x pos')) pos.line X.env = pure false := by rfl) (hf : X.fn x = true ∨ X.env.scope.names.lookup x = some .local := by exact Or.inl rfl) :
    PS X (.Assign [.Name x pos'] e pos) (tZN X.K c (ySetN i f)) := ps_imp (ps_set nd hi hx he hs hf) fun D σ H ⟨F, ρ, hn, r, q⟩ =>
  ⟨F, ρ, hn, r, (OoN.po r q).mono fun d F' H' _ x k v rv => k F' H' _ (Same.refl F') ((r.ext x).set ⟨v, rfl, rv⟩ fun z => nomatch z)⟩
end
/-- called with data, it comes to what F tells, new against any N -/
def spN (K : Fg) (ca : Str → Value) (n : Nat) (Fn : List PyData → R PyData) : Sp := fun vs H Q E => vs.length = n ∧ ∃ F N ds, Same F H ∧ Same N H ∧ RpA K F vs ds ∧ match Fn ds with
  | .ok d => ∀ F' H' v, Ext F H F' H' → Rn K N F' v d → Q v H'
  | .exc m => ∀ H', Same H H' → E (ca m) none H'
  | .bad => False
theorem spN_len {K : Fg} {ca : Str → Value} {n : Nat} {Fn : List PyData → R PyData} {ps : List Str} (h : ps.length = n) : ∀ vs H Q E, spN K ca n Fn vs H Q E → vs.length = ps.length := fun _ _ _ _ q => q.1.trans h.symm
structure CalN (P : Program) (w : World) (K : Fg) (mg : Str → Option Value) (base : Heap) (ca : Str → Value) (k : Nat) (x : Str) (n : Nat) (Fn : List PyData → R PyData) : Prop where
  ex : ∃ (f : Addr) (fd : FuncData) (ps : List Str), FnOk P w K mg base (L2.CX P w) k f fd ps (spN K ca n Fn) ∧ ps.length = n ∧ mg x = some (.ref f) ∧ PySem.W.keepIn K (.ref f) = true ∧ Binds K fd ps []
section
variable {P : Program} {w : World} {K : Fg} {mg : Str → Option Value} {base : Heap}
theorem start_rl {c : Cc} {N ps : List Str} {n : Nat} {F H : Hp} {vs : List V} {ds : List PyData} (hn : ps.length = n) (hpre : N.take ps.length = ps) (sm : Same F H) (rv : RpA K F vs ds) (hds : ds.length = n) (hF : c.F0 = F) (hH : c.H0 = H) : Rl K c F H (env0 N.length ds) (L2.start N vs) := by
  refine ⟨?_, by rw [hF, hH]; exact Ext.refl sm, fun i t e => ?_, fun i j t u p e1 e2 o1 o2 => ?_⟩
  · unfold env0 L2.start
    simp only [List.length_append, List.length_map, List.length_replicate, rv.len]
  · rcases env0_get e with ⟨d, h1, h2⟩ | h2
    · subst h2
      obtain ⟨v, h3, h4⟩ := rv.get h1
      refine ⟨v, ?_, h4⟩
      unfold L2.start
      rw [List.getElem?_append_left (by rw [List.length_map]; exact (List.getElem?_eq_some_iff.mp h3).1), List.getElem?_map, h3]
      rfl
    · subst h2; trivial
  · rcases env0_get e1 with ⟨d, h1, h2⟩ | h2
    · subst h2; cases o1
    · subst h2; cases o1
theorem mk_calN {x : Str} {st : Stmt} {N ps : List Str} {k n : Nat} {ca : Str → Value} {Fn : List PyData → R PyData} {body : En → O} (D : DefK K mg x st) (S : FnScope N ps (defScope st)) (hn : ps.length = n)
    (hb : ∀ (kV doc pm : Value) (an : Option Addr) (cdv ct : Value) (us : List Value), us.length = ps.length → bindArgs (PySem.W.fnOf x x (defArgs st) (defBody st) (defScope st) .none kV doc pm an cdv ct) ⟨us, []⟩ = pure (ps.zip us))
    (hbody : ∀ (f : Addr) (cdv : Value) (A : Around) (outer : List Env) (s : Shared) (H : Hp) (E : XK) (c : Cc), c.ca = ca → Takes (cxOf (L2.CX P w) P w K mg base N x (defScope st) f cdv A outer s H E) c.W → PassesOwn (model P w) (cxOf (L2.CX P w) P w K mg base N x (defScope st) f cdv A outer s H E).A (cxOf (L2.CX P w) P w K mg base N x (defScope st) f cdv A outer s H E).env (cxOf (L2.CX P w) P w K mg base N x (defScope st) f cdv A outer s H E).xe →
      Room k (cxOf (L2.CX P w) P w K mg base N x (defScope st) f cdv A outer s H E).A → PSs (cxOf (L2.CX P w) P w K mg base N x (defScope st) f cdv A outer s H E) (defBody st) (tZN K c body))
    (hF : ∀ ds, ds.length = n → Fn ds = fin (body (env0 N.length ds))) : CalN P w K mg base ca (k + 1) x n Fn := by
  obtain ⟨f, fd, Fu, hm⟩ := D.ex
  refine ⟨f, fd, ps, ?_, hn, hm, Fu.kp, Fu.binds hb⟩
  refine Fu.okX S (spN_len hn) fun cdv A outer s H vs Q E hr h => ?_
  obtain ⟨hl, F, M, ds, sm, sn, rv, q⟩ := h
  have hds : ds.length = n := by rw [← rv.len]; exact hl
  refine ⟨_, hbody f cdv A outer s H E ⟨ca, fun cls d _ H => E cls d H, F, H, M, .non⟩ rfl (takes_of rfl rfl rfl rfl) (passes_of rfl) hr, F, env0 N.length ds, sn, start_rl hn S.pre sm rv hds rfl rfl, ?_⟩
  rw [hF ds hds] at q
  cases hb : body (env0 N.length ds) with
  | nx ρ => rw [hb] at q; exact fun F' H' σ' s' r => q F' H' .non r.e .non
  | rt d => rw [hb] at q; exact q
  | ex m ρ => rw [hb] at q; exact fun H' σ' r => q H' r
  | bad => rw [hb] at q; exact q.elim
end
theorem nCal {X : Cx} {c : Cc} {e : Expr} {es : List Expr} {g : En → R (List PyData)} {pos p : Pos} {x : Str} {k j n : Nat} {Fn : List PyData → R PyData} (C : CalN X.prog X.w X.K X.mg X.base c.ca k x n Fn) (tk : Takes X c.W) (hr : Room j X.A) (ha : PA X (e :: es) (tA X.K c g)) (hk : k ≤ j := by decide) (hl : (e :: es).length = n := by rfl)
    (hg : Gl X x := by rfl) (hdb : (x == ("__debug__" : Str)) = false := by decide)
    (he : starEach (e :: es) X.env = (false, eval e X.env) :: starEach es X.env := by rfl) (hpl : (backTo pos (starEach es X.env)).any (·.1) = false := by rfl) :
    PE X (.Call (.Name x p) (e :: es) [] pos) (tN X.K c (xCl n Fn g)) := by
  obtain ⟨f, fd, ps, h1, h2, h3, h4, h5⟩ := C.ex
  refine pe_imp (pe_callS h1 (hr.mono hk) hg h3 h4 h5 (fun σ => passAt tk σ) ha hdb he hpl) fun σ H Q ⟨F, ρ, hn, r, q⟩ => ⟨F, ρ, r, (Po.bind q).mono fun ds F1 H1 _ x1 k vs rv => ?_⟩
  by_cases hz : ds.length = n
  · rw [if_pos hz] at k
    refine ⟨rv.len.trans hz, F1, c.Hn, ds, x1.s, (hn.trans r.e.h).trans x1.h, rv, ?_⟩
    cases hf : Fn ds with
    | ok d => rw [hf] at k; exact fun F' H' v xe r' => k F' H' xe v r'
    | exc m => rw [hf] at k; exact fun H' sm => k F1 H' ⟨Same.refl F1, sm, x1.s.trans sm, fun _ _ e => Or.inl e⟩
    | bad => rw [hf] at k; exact k
  · rw [if_neg hz] at k; exact k.elim
/-- a new value is a value -/
theorem CalN.cal {P : Program} {w : World} {K : Fg} {mg : Str → Option Value} {base : Heap} {ca : Str → Value} {k n : Nat} {x : Str} {Fn : List PyData → R PyData} (C : CalN P w K mg base ca k x n Fn) : True := trivial
end DL
set_option Elab.async false
set_option linter.all false
set_option maxRecDepth 100000
set_option maxHeartbeats 1000000
/-! Defs that are handed the list and the dict of the states found so far, and change both. -/
namespace DL
open PySem PySem.Spec L2
/-- the pair, its list, its dict -/
structure Kn where
  t : Addr
  sa : Addr
  da : Addr
def hid (k : Kn) (H0 H : Hp) : Hp := fun p => if p = k.sa ∨ p = k.da then H p else H0 p
def mns (k : Kn) (H : Hp) : Hp := fun p => if p = k.sa ∨ p = k.da then none else H p
theorem hid_mns (k : Kn) (H : Hp) : hid k (mns k H) H = H := by
  funext p
  unfold hid mns
  split <;> rfl
theorem hid_ne {k : Kn} {H0 H : Hp} {p : Addr} (h1 : p ≠ k.sa) (h2 : p ≠ k.da) : hid k H0 H p = H0 p := by
  unfold hid; rw [if_neg (fun h => h.elim h1 h2)]
theorem hid_sa {k : Kn} {H0 H : Hp} : hid k H0 H k.sa = H k.sa := by unfold hid; rw [if_pos (Or.inl rfl)]
theorem hid_da {k : Kn} {H0 H : Hp} : hid k H0 H k.da = H k.da := by unfold hid; rw [if_pos (Or.inr rfl)]
theorem mns_ne {k : Kn} {H : Hp} {p : Addr} (h1 : p ≠ k.sa) (h2 : p ≠ k.da) : mns k H p = H p := by
  unfold mns; rw [if_neg (fun h => h.elim h1 h2)]
theorem mns_sa {k : Kn} {H : Hp} : mns k H k.sa = none := by unfold mns; rw [if_pos (Or.inl rfl)]
theorem mns_da {k : Kn} {H : Hp} : mns k H k.da = none := by unfold mns; rw [if_pos (Or.inr rfl)]
theorem mns_some {k : Kn} {H : Hp} {p : Addr} {o : HO} (h : mns k H p = some o) : p ≠ k.sa ∧ p ≠ k.da ∧ H p = some o := by
  unfold mns at h
  split at h
  · cases h
  · rename_i n
    exact ⟨fun z => n (Or.inl z), fun z => n (Or.inr z), h⟩
/-- what stands in the list and the dict -/
structure Amb (P : Program) (w : World) (K : Fg) (N : Hp) (k : Kn) (F H : Hp) (sts : List Std) : Prop where
  l : ∃ vs, H k.sa = some (.lst vs) ∧ RnA K N F vs (sts.map stD)
  d : ∃ as, H k.da = some (numO P w k.da sts as) ∧ RpA K F (as.map V.ref) (sts.map keyD)
  fs : F k.sa = none
  fd : F k.da = none
  nd : sts.Nodup
  t : SqT K F k.t [.ref k.sa, .ref k.da]
theorem Amb.move {P : Program} {w : World} {K : Fg} {N : Hp} {k : Kn} {F H F' H' : Hp} {sts : List Std} (a : Amb P w K N k F H sts) (f : Same F F') (hs : H' k.sa = H k.sa) (hd : H' k.da = H k.da) (fs : F' k.sa = none) (fd : F' k.da = none) : Amb P w K N k F' H' sts := by
  obtain ⟨vs, h1, h2⟩ := a.l
  obtain ⟨as, h3, h4⟩ := a.d
  exact ⟨⟨vs, hs.trans h1, h2.same f⟩, ⟨as, hd.trans h3, h4.same f⟩, fs, fd, a.nd, sqT_same f a.t⟩
theorem Amb.ne {P : Program} {w : World} {K : Fg} {N : Hp} {k : Kn} {F H : Hp} {sts : List Std} (a : Amb P w K N k F H sts) : k.sa ≠ k.da := by
  obtain ⟨vs, h1, h2⟩ := a.l
  obtain ⟨as, h3, h4⟩ := a.d
  exact ne_of h1 h3 (fun z => nomatch z)
abbrev cK (c : Cc) (k : Kn) (H : Hp) : Cc := { c with H0 := hid k c.H0 H, kn := .ref k.t }
structure RlK (P : Program) (w : World) (K : Fg) (c : Cc) (k : Kn) (F H : Hp) (ρ : En) (sts : List Std) (σ : St) : Prop where
  rl : Rl K (cK c k H) F H ρ σ
  am : Amb P w K c.Hn k F H sts
  hs : c.H0 k.sa = none
  hd : c.H0 k.da = none
  hn : Same c.Hn c.H0
section
variable {P : Program} {w : World} {K : Fg} {c : Cc} {k : Kn} {F H F' H' : Hp} {ρ : En} {sts : List Std} {σ : St}
theorem RlK.h0 (r : RlK P w K c k F H ρ sts σ) : Same c.H0 H := fun p o e => by
  refine r.rl.e.h p o ?_
  show hid k c.H0 H p = some o
  rw [hid_ne (fun z => by subst z; rw [r.hs] at e; cases e) (fun z => by subst z; rw [r.hd] at e; cases e)]
  exact e
theorem RlK.hnh (r : RlK P w K c k F H ρ sts σ) : Same c.Hn (cK c k H).H0 := fun p o e => by
  have e2 := r.hn p o e
  show hid k c.H0 H p = some o
  rw [hid_ne (fun z => by subst z; rw [r.hs] at e2; cases e2) (fun z => by subst z; rw [r.hd] at e2; cases e2)]
  exact e2
theorem RlK.e0 (r : RlK P w K c k F H ρ sts σ) : Ext c.F0 c.H0 F H := ⟨r.rl.e.f, r.h0, r.rl.e.s, fun p o e => by
  rcases r.rl.e.n p o e with q | q
  · exact Or.inl q
  · refine Or.inr ?_
    have q : hid k c.H0 H p = none := q
    rw [hid_ne (fun z => by subst z; rw [r.am.fs] at e; cases e) (fun z => by subst z; rw [r.am.fd] at e; cases e)] at q
    exact q⟩
/-- the list and the dict may change, all else grows -/
structure ExtK (k : Kn) (F H F' H' : Hp) : Prop where
  f : Same F F'
  h : ∀ p o, p ≠ k.sa → p ≠ k.da → H p = some o → H' p = some o
  s : Same F' H'
  n : ∀ p o, F' p = some o → F p = some o ∨ H p = none
theorem Ext.toK {k : Kn} (x : Ext F H F' H') : ExtK k F H F' H' := ⟨x.f, fun p o _ _ e => x.h p o e, x.s, x.n⟩
theorem Amb.ext (a : Amb P w K c.Hn k F H sts) (x : Ext F H F' H') : Amb P w K c.Hn k F' H' sts := by
  obtain ⟨vs, h1, h2⟩ := a.l
  obtain ⟨as, h3, h4⟩ := a.d
  exact a.move x.f ((x.h _ _ h1).trans h1.symm) ((x.h _ _ h3).trans h3.symm) (x.own_none h1 a.fs) (x.own_none h3 a.fd)
theorem RlK.ext {sts' : List Std} (r : RlK P w K c k F H ρ sts σ) (x : ExtK k F H F' H') (am : Amb P w K c.Hn k F' H' sts') : RlK P w K c k F' H' ρ sts' σ := by
  obtain ⟨vs, h1, h2⟩ := r.am.l
  obtain ⟨as, h3, h4⟩ := r.am.d
  refine ⟨⟨r.rl.len, ⟨r.rl.e.f.trans x.f, fun p o e => ?_, x.s, fun p o e => ?_⟩, fun i s e => ?_, r.rl.one⟩, am, r.hs, r.hd, r.hn⟩
  · have e : hid k c.H0 H' p = some o := e
    by_cases z1 : p = k.sa
    · subst z1; rw [hid_sa] at e; exact e
    · by_cases z2 : p = k.da
      · subst z2; rw [hid_da] at e; exact e
      · rw [hid_ne z1 z2] at e
        exact x.h p o z1 z2 (r.h0 p o e)
  · have z1 : p ≠ k.sa := fun z => by subst z; rw [am.fs] at e; cases e
    have z2 : p ≠ k.da := fun z => by subst z; rw [am.fd] at e; cases e
    show c.F0 p = some o ∨ hid k c.H0 H' p = none
    rw [hid_ne z1 z2]
    rcases x.n p o e with q | q
    · rcases r.e0.n p o q with q | q
      · exact Or.inl q
      · exact Or.inr q
    · exact Or.inr (r.h0.free q)
  · have q := r.rl.at_ i s e
    have own : ∀ p : Addr, (cK c k H).H0 p = none → p ≠ k.sa ∧ p ≠ k.da ∧ (cK c k H').H0 p = none := fun p hp => by
      have hp : hid k c.H0 H p = none := hp
      have z1 : p ≠ k.sa := fun z => by subst z; rw [hid_sa, h1] at hp; cases hp
      have z2 : p ≠ k.da := fun z => by subst z; rw [hid_da, h3] at hp; cases hp
      refine ⟨z1, z2, ?_⟩
      show hid k c.H0 H' p = none
      rw [hid_ne z1 z2] at hp ⊢
      exact hp
    have fn : ∀ (p : Addr) (o : HO), H p = some o → F p = none → F' p = none := fun p o hp fp => by
      cases z : F' p with
      | none => rfl
      | some u =>
        rcases x.n p u z with y | y
        · rw [fp] at y; cases y
        · rw [hp] at y; cases y
    cases s with
    | un => trivial
    | sh d =>
      obtain ⟨v, a, b⟩ := q
      exact ⟨v, a, b.same x.f⟩
    | own ds =>
      obtain ⟨p, vs, a, b, d, e, g⟩ := q
      obtain ⟨z1, z2, z3⟩ := own p e
      exact ⟨p, vs, a, x.h _ _ z1 z2 b, fn _ _ b d, z3, g.same x.f⟩
    | odc ds =>
      obtain ⟨p, vs, a, b, d, e, g⟩ := q
      obtain ⟨z1, z2, z3⟩ := own p e
      exact ⟨p, vs, a, x.h _ _ z1 z2 b, fn _ _ b d, z3, g.same x.f⟩
    | kn => exact q
    | nw d =>
      obtain ⟨v, a, b⟩ := q
      exact ⟨v, a, b.same x.f⟩
    | owN ds =>
      obtain ⟨p, vs, a, b, d, e, g⟩ := q
      obtain ⟨z1, z2, z3⟩ := own p e
      exact ⟨p, vs, a, x.h _ _ z1 z2 b, fn _ _ b d, z3, g.same x.f⟩
theorem RlK.ex (r : RlK P w K c k F H ρ sts σ) (x : Ext F H F' H') : RlK P w K c k F' H' ρ sts σ := r.ext x.toK (r.am.ext x)
/-- behind a statement that leaves both alone -/
theorem RlK.back {ρ' : En} {σ' : St} (r : RlK P w K c k F H ρ sts σ) (f : Same F F') (r' : Rl K (cK c k H) F' H' ρ' σ') : RlK P w K c k F' H' ρ' sts σ' := by
  obtain ⟨vs, h1, h2⟩ := r.am.l
  obtain ⟨as, h3, h4⟩ := r.am.d
  have hs : H' k.sa = H k.sa := (r'.e.h k.sa _ (by show hid k c.H0 H k.sa = _; rw [hid_sa]; exact h1)).trans h1.symm
  have hd : H' k.da = H k.da := (r'.e.h k.da _ (by show hid k c.H0 H k.da = _; rw [hid_da]; exact h3)).trans h3.symm
  have e : cK c k H' = cK c k H := by
    have : hid k c.H0 H' = hid k c.H0 H := by
      funext p
      unfold hid
      split
      · rename_i z
        rcases z with z | z
        · subst z; exact hs
        · subst z; exact hd
      · rfl
    unfold cK
    rw [this]
  have fn : ∀ (p : Addr) (o : HO), F p = none → (cK c k H).H0 p = some o → F' p = none := fun p o fp hp => by
    cases z : F' p with
    | none => rfl
    | some u =>
      rcases r'.e.n p u z with y | y
      · have := r.rl.e.f p u y
        rw [fp] at this; cases this
      · rw [hp] at y; cases y
  have g1 : (cK c k H).H0 k.sa = some (.lst vs) := by
    show hid k c.H0 H k.sa = _
    rw [hid_sa]; exact h1
  have g2 : (cK c k H).H0 k.da = some (numO P w k.da sts as) := by
    show hid k c.H0 H k.da = _
    rw [hid_da]; exact h3
  exact ⟨by rw [e]; exact r', r.am.move f hs hd (fn _ _ r.am.fs g1) (fn _ _ r.am.fd g2), r.hs, r.hd, r.hn⟩
end
/-- what a statement comes to -/
inductive OK where
  | nx (ρ : En) (sts : List Std)
  | rt (d : PyData) (sts : List Std)
  | rn (d : PyData)
  | ex (n : Str)
  | bad
def OoK (P : Program) (w : World) (K : Fg) (c : Cc) (k : Kn) (F : Hp) (D : Ends) : OK → Prop
  | .nx ρ sts => ∀ F' H' σ', Same F F' → RlK P w K c k F' H' ρ sts σ' → D.nx σ' H'
  | .rt d sts => ∀ F' H' v, Ext c.F0 c.H0 F' H' → Amb P w K c.Hn k F' H' sts → Rn K c.Hn F' v d → D.rt v H'
  | .rn d => ∀ F' H' v, Ext c.F0 c.H0 F' H' → Rn K c.Hn F' v d → D.rt v H'
  | .ex n => ∀ H' σ', Same c.H0 H' → c.W (c.ca n) none σ' H'
  | .bad => False
def tZK (P : Program) (w : World) (K : Fg) (c : Cc) (k : Kn) (f : En → List Std → OK) : TS := fun D σ H => ∃ F ρ sts, RlK P w K c k F H ρ sts σ ∧ OoK P w K c k F D (f ρ sts)
@[simp] def bK {α : Type} (r : R α) (f : α → OK) : OK := match r with
  | .ok a => f a
  | .exc n => .ex n
  | .bad => .bad
@[simp] def seqK (o : OK) (g : En → List Std → OK) : OK := match o with
  | .nx ρ sts => g ρ sts
  | .rt d s => .rt d s
  | .rn d => .rn d
  | .ex n => .ex n
  | .bad => .bad
@[simp] def upK (g : En → O) : En → List Std → OK := fun ρ sts => match g ρ with
  | .nx ρ' => .nx ρ' sts
  | .ex n _ => .ex n
  | _ => .bad
@[simp] def yConsK (g h : En → List Std → OK) : En → List Std → OK := fun ρ sts => seqK (g ρ sts) h
@[simp] def yNilK : En → List Std → OK := fun ρ sts => .nx ρ sts
@[simp] def yIfK (t : En → R Bool) (g h : En → List Std → OK) : En → List Std → OK := fun ρ sts => bK (t ρ) fun z => if z = true then g ρ sts else h ρ sts
@[simp] def yRetK (f : En → R PyData) : En → List Std → OK := fun ρ sts => bK (f ρ) fun d => .rt d sts
@[simp] def ySetNK (i : Nat) (f : En → R PyData) : En → List Std → OK := fun ρ sts => bK (f ρ) fun d => .nx (ρ.set i (.nw d)) sts
theorem OoK.mono {P : Program} {w : World} {K : Fg} {c : Cc} {k : Kn} {F F1 : Hp} {D : Ends} {o : OK} (h : OoK P w K c k F D o) (s : Same F F1) : OoK P w K c k F1 D o := by
  cases o with
  | nx ρ sts => exact fun F' H' σ' s' r => h F' H' σ' (s.trans s') r
  | _ => exact h
theorem OoK.po {P : Program} {w : World} {K : Fg} {c : Cc} {k : Kn} {F H : Hp} {D : Ends} {ρ : En} {sts : List Std} {σ : St} {α : Type} {y : R α} {f : α → OK} (r : RlK P w K c k F H ρ sts σ) (h : OoK P w K c k F D (bK y f)) :
    Po (cK c k H) σ F H y fun a F' H' => RlK P w K c k F' H' ρ sts σ ∧ OoK P w K c k F' D (f a) := by
  cases y with
  | ok a => exact fun F' H' x => ⟨r.ex x, OoK.mono h x.f⟩
  | exc n => exact fun F' H' x => h H' σ (r.h0.trans x.h)
  | bad => exact h
abbrev cAt (c : Cc) (F0 H0 Hn : Hp) (kn : V) : Cc := ⟨c.ca, c.W, F0, H0, Hn, kn⟩
section
variable {X : Cx} {c : Cc} {k : Kn} {st : Stmt} {rest : List Stmt} {e : Expr} {f : En → R PyData} {g : En → O} {a b : En → List Std → OK} {pos pos' : Pos}
theorem kLift (h : ∀ F0 H0 Hn kn, PS X st (tZ X.K (cAt c F0 H0 Hn kn) g)) : PS X st (tZK X.prog X.w X.K c k (upK g)) := ⟨fun pins s σ H D I ⟨F, ρ, sts, r, q⟩ => by
  refine (h c.F0 (hid k c.H0 H) c.Hn (.ref k.t)).run pins s σ H D I ⟨F, ρ, r.rl, ?_⟩
  unfold upK at q
  cases hg : g ρ with
  | nx ρ' => rw [hg] at q; exact fun F' H' σ' sm r' => q F' H' σ' sm (r.back sm r')
  | rt d => rw [hg] at q; exact q.elim
  | ex n ρ' =>
    rw [hg] at q
    exact fun F' H' σ' r' => q H' σ' fun p o e => r'.e.h p o (by
      show hid k c.H0 H p = some o
      rw [hid_ne (fun z => by subst z; rw [r.hs] at e; cases e) (fun z => by subst z; rw [r.hd] at e; cases e)]
      exact e)
  | bad => rw [hg] at q; exact q.elim⟩
theorem kNil : PSs X [] (tZK X.prog X.w X.K c k yNilK) := pss_imp pss_nil fun D σ H ⟨F, ρ, sts, r, q⟩ => q F H σ (Same.refl F) r
theorem kOne (h1 : PS X st (tZK X.prog X.w X.K c k a)) : PSs X [st] (tZK X.prog X.w X.K c k a) := pss_one h1
theorem kCons (h1 : PS X st (tZK X.prog X.w X.K c k a)) (h2 : PSs X rest (tZK X.prog X.w X.K c k b)) : PSs X (st :: rest) (tZK X.prog X.w X.K c k (yConsK a b)) := pss_imp (pss_cons h1 h2) fun D σ H ⟨F, ρ, sts, r, q⟩ => by
  refine ⟨F, ρ, sts, r, ?_⟩
  unfold yConsK at q
  cases hg : a ρ sts with
  | nx ρ' sts' => rw [hg] at q; exact fun F' H' σ' s r' => ⟨F', ρ', sts', r', q.mono s⟩
  | rt d sts' => rw [hg] at q; exact q
  | rn d => rw [hg] at q; exact q
  | ex n => rw [hg] at q; exact q
  | bad => rw [hg] at q; exact q
theorem kIf {t : En → R Bool} {s1 s2 : List Stmt} (ht : ∀ F0 H0 Hn kn, PT X e (tT X.K (cAt c F0 H0 Hn kn) t)) (ha : PSs X s1 (tZK X.prog X.w X.K c k a)) (hb : PSs X s2 (tZK X.prog X.w X.K c k b)) : PS X (.If e s1 s2 pos) (tZK X.prog X.w X.K c k (yIfK t a b)) := by
  refine ps_imp (ps_if (tc := fun σ H Q => ∃ F0 H0 Hn kn, tT X.K (cAt c F0 H0 Hn kn) t σ H Q) ⟨fun pins s σ H Q I ⟨F0, H0, Hn, kn, q⟩ => (ht F0 H0 Hn kn).run pins s σ H Q I q⟩ ha hb) fun D σ H ⟨F, ρ, sts, r, q⟩ => ?_
  refine ⟨c.F0, hid k c.H0 H, c.Hn, .ref k.t, F, ρ, r.rl, (OoK.po r q).mono fun z F' H' _ x k => ?_⟩
  cases z with
  | true => exact ⟨F', ρ, sts, k.1, k.2⟩
  | false => exact ⟨F', ρ, sts, k.1, k.2⟩
theorem pe_any {t : Hp → Hp → Hp → V → TE} (h : ∀ F0 H0 Hn kn, PE X e (t F0 H0 Hn kn)) : PE X e (fun σ H Q => ∃ F0 H0 Hn kn, t F0 H0 Hn kn σ H Q) := ⟨fun pins s σ H Q I ⟨F0, H0, Hn, kn, q⟩ => (h F0 H0 Hn kn).run pins s σ H Q I q⟩
theorem pa_any {es : List Expr} {t : Hp → Hp → Hp → V → TA} (h : ∀ F0 H0 Hn kn, PA X es (t F0 H0 Hn kn)) : PA X es (fun σ H Q => ∃ F0 H0 Hn kn, t F0 H0 Hn kn σ H Q) := ⟨fun p pins s σ H Q I ⟨F0, H0, Hn, kn, q⟩ => (h F0 H0 Hn kn).run p pins s σ H Q I q⟩
theorem pi_any {tg : Expr} {t : Hp → Hp → Hp → V → TI} (h : ∀ F0 H0 Hn kn, PI X tg e (t F0 H0 Hn kn)) : PI X tg e (fun σ H Q => ∃ F0 H0 Hn kn, t F0 H0 Hn kn σ H Q) := ⟨fun pins s σ H Q I ⟨F0, H0, Hn, kn, q⟩ => (h F0 H0 Hn kn).run pins s σ H Q I q⟩
theorem kRet (he : ∀ F0 H0 Hn kn, PE X e (tN X.K (cAt c F0 H0 Hn kn) f)) : PS X (.Return (some e) pos) (tZK X.prog X.w X.K c k (yRetK f)) := ps_imp (ps_ret (pe_any he)) fun D σ H ⟨F, ρ, sts, r, q⟩ =>
  ⟨c.F0, hid k c.H0 H, c.Hn, .ref k.t, F, ρ, r.hnh, r.rl, (OoK.po r q).mono fun d F' H' _ x k v rv => k.2 F' H' v k.1.e0 k.1.am rv⟩
theorem RlK.setN {P : Program} {w : World} {K : Fg} {F H : Hp} {ρ : En} {sts : List Std} {σ : St} {d : PyData} {v : V} (i : Nat) (r : RlK P w K c k F H ρ sts σ) (h : Rn K c.Hn F v d) : RlK P w K c k F H (ρ.set i (.nw d)) sts (σ.set i (some v)) :=
  ⟨r.rl.set ⟨v, rfl, h⟩ fun z => (nomatch z), r.am, r.hs, r.hd, r.hn⟩
theorem kSetN (i : Nat) {x : Str} (nd : X.N.Nodup) (he : ∀ F0 H0 Hn kn, PE X e (tN X.K (cAt c F0 H0 Hn kn) f)) (hi : X.N[i]? = some x := by rfl) (hx : Loc X.env.scope x := by first | exact Or.inl rfl | exact Or.inr rfl) (hs : swapsWith e (some (.Name x pos')) pos.line X.env = pure false := by rfl) (hf : X.fn x = true ∨ X.env.scope.names.lookup x = some .local := by exact Or.inl rfl) :
    PS X (.Assign [.Name x pos'] e pos) (tZK X.prog X.w X.K c k (ySetNK i f)) := ps_imp (ps_set nd hi hx (pe_any he) hs hf) fun D σ H ⟨F, ρ, sts, r, q⟩ =>
  ⟨c.F0, hid k c.H0 H, c.Hn, .ref k.t, F, ρ, r.hnh, r.rl, (OoK.po r q).mono fun d F' H' _ x k v rv => k.2 F' H' _ (Same.refl F') (k.1.setN i rv)⟩
end
def loopK (τ : PyData → En → R En) (body : En → List Std → OK) : List PyData → En → List Std → OK
  | [], ρ, sts => .nx ρ sts
  | d :: ds, ρ, sts => match τ d ρ with
    | .ok ρ1 => seqK (body ρ1 sts) (loopK τ body ds)
    | _ => .bad
def yForK (f : En → R (List PyData)) (τ : PyData → En → R En) (body : En → List Std → OK) : En → List Std → OK := fun ρ sts => bK (f ρ) fun ds => loopK τ body ds ρ sts
theorem kFor {X : Cx} {c : Cc} {k : Kn} {tg iter : Expr} {body : List Stmt} {f : En → R (List PyData)} {g : TG} {τ : PyData → En → R En} {is : List Nat} {b : En → List Std → OK} {pos : Pos} (hp : PassesOwn (model X.prog X.w) X.A X.env X.xe) (hc : X.calm = true)
    (hi : ∀ F0 H0 Hn kn, PI X tg iter (tIt X.K (cAt c F0 H0 Hn kn) f)) (hg : PG X tg g) (T : Tgt X.K g τ is) (hb : PSs X body (tZK X.prog X.w X.K c k b))
    (hs : ∀ x, foldedSetIterable iter X.env x = pure x := by intro _; rfl) : PS X (.For tg iter body [] pos) (tZK X.prog X.w X.K c k (yForK f τ b)) := ps_imp (ps_for hp hc (pi_any hi) hg hb hs) fun D σ H ⟨F, ρ, sts, r, q⟩ =>
  ⟨c.F0, hid k c.H0 H, c.Hn, .ref k.t, F, ρ, r.rl, (OoK.po r q).mono fun ds F1 H1 _ x1 kk J ok => by
    refine ⟨fun i m σ H => m = ds.length - i ∧ i ≤ ds.length ∧ ∃ F ρ sts, Same F1 F ∧ RlK X.prog X.w X.K c k F H ρ sts σ ∧ OoK X.prog X.w X.K c k F D (loopK τ b (ds.drop i) ρ sts), ⟨_, rfl, Nat.zero_le _, F1, ρ, sts, Same.refl _, kk.1, kk.2⟩, ?_⟩
    rintro i m σ H ⟨rfl, hi, F2, ρ2, sts2, s2, r2, q2⟩
    by_cases hlt : i < ds.length
    · have e : ds[i]? = some ds[i] := List.getElem?_eq_getElem hlt
      obtain ⟨go, it⟩ := ok.item i _ F2 H e s2 r2.rl.s
      refine Or.inr ⟨go, fun σ' H' => ∃ F ρ sts, Same F1 F ∧ RlK X.prog X.w X.K c k F H' ρ sts σ' ∧ OoK X.prog X.w X.K c k F D (loopK τ b (ds.drop (i + 1)) ρ sts), fun σ' H' z => ⟨_, by omega, rfl, hlt, z⟩, fun x H' y => ?_⟩
      obtain ⟨F3, x3, rv⟩ := it x H' y
      rw [List.drop_eq_getElem_cons hlt] at q2
      unfold loopK at q2
      cases ht : τ ds[i] ρ2 with
      | ok ρ3 =>
        rw [ht] at q2
        have r3 := r2.ex x3
        refine T.ok (cK c k H') F3 H' ρ2 ρ3 σ x _ _ r3.rl rv ht fun σ4 r4 _ => ⟨F3, ρ3, sts2, r3.back (Same.refl F3) r4, ?_⟩
        dsimp only at q2
        have sm : Same F1 F3 := s2.trans x3.f
        cases hbo : b ρ3 sts2 with
        | nx ρ5 sts5 => rw [hbo] at q2; exact fun F' H' σ' s5 r5 => ⟨F', ρ5, sts5, sm.trans s5, r5, q2.mono (x3.f.trans s5)⟩
        | rt d s => rw [hbo] at q2; exact q2
        | rn d => rw [hbo] at q2; exact q2
        | ex n => rw [hbo] at q2; exact q2
        | bad => rw [hbo] at q2; exact q2
      | exc n => rw [ht] at q2; exact q2.elim
      | bad => rw [ht] at q2; exact q2.elim
    · have e : i = ds.length := by omega
      subst e
      rw [List.drop_length] at q2
      exact Or.inl ⟨ok.stop F2 H s2 r2.rl.s, q2 F2 H σ (Same.refl F2) r2⟩⟩
end DL
set_option Elab.async false
set_option linter.all false
set_option maxRecDepth 100000
set_option maxHeartbeats 1000000
/-! Calls that are handed the pair of states. -/
namespace DL
open PySem PySem.Spec L2
inductive SlotR (K : Fg) (N : Hp) (kv : V) (F : Hp) : V → Slot → Prop
  | sh {v : V} {d : PyData} : Rp K F v d → SlotR K N kv F v (.sh d)
  | nw {v : V} {d : PyData} : Rn K N F v d → SlotR K N kv F v (.nw d)
  | kn : SlotR K N kv F kv .kn
inductive SlotA (K : Fg) (N : Hp) (kv : V) (F : Hp) : List V → List Slot → Prop
  | nil : SlotA K N kv F [] []
  | cons {v : V} {vs : List V} {s : Slot} {ss : List Slot} : SlotR K N kv F v s → SlotA K N kv F vs ss → SlotA K N kv F (v :: vs) (s :: ss)
theorem SlotR.same {K : Fg} {N : Hp} {kv : V} {F F' : Hp} (e : Same F F') {v : V} {s : Slot} (r : SlotR K N kv F v s) : SlotR K N kv F' v s := by
  cases r with
  | sh r => exact .sh (r.same e)
  | nw r => exact .nw (r.same e)
  | kn => exact .kn
theorem SlotA.len {K : Fg} {N : Hp} {kv : V} {F : Hp} : ∀ {vs : List V} {ss : List Slot}, SlotA K N kv F vs ss → vs.length = ss.length
  | _, _, .nil => rfl
  | _, _, .cons _ t => by rw [List.length_cons, List.length_cons, t.len]
theorem SlotA.get {K : Fg} {N : Hp} {kv : V} {F : Hp} : ∀ {vs : List V} {ss : List Slot} {i : Nat} {s : Slot}, SlotA K N kv F vs ss → ss[i]? = some s → ∃ v, vs[i]? = some v ∧ SlotR K N kv F v s
  | _, _, _, _, .nil, e => by simp at e
  | _, _, 0, _, .cons r _, e => by simp at e; subst e; exact ⟨_, rfl, r⟩
  | _, _, i + 1, d, .cons _ t, e => by
    obtain ⟨v, h1, h2⟩ := SlotA.get (i := i) (s := d) t (by simpa using e)
    exact ⟨v, by simpa using h1, h2⟩
def tAR (K : Fg) (c : Cc) (g : En → R (List Slot)) : TA := fun σ H Q => ∃ F ρ, Same c.Hn c.H0 ∧ Rl K c F H ρ σ ∧ Po c σ F H (g ρ) fun ss F' H' => ∀ vs, SlotA K c.Hn c.kn F' vs ss → Q vs H'
@[simp] def xR0 : En → R (List Slot) := fun _ => .ok []
@[simp] def xRS (f : En → R PyData) (g : En → R (List Slot)) : En → R (List Slot) := fun ρ => (f ρ).bind fun d => (g ρ).bind fun ss => .ok (.sh d :: ss)
@[simp] def xRN (f : En → R PyData) (g : En → R (List Slot)) : En → R (List Slot) := fun ρ => (f ρ).bind fun d => (g ρ).bind fun ss => .ok (.nw d :: ss)
@[simp] def xRK (i : Nat) (g : En → R (List Slot)) : En → R (List Slot) := fun ρ => match ρ[i]? with
  | some .kn => (g ρ).bind fun ss => .ok (.kn :: ss)
  | _ => .bad
section
variable {X : Cx} {c : Cc} {e a b : Expr} {es : List Expr} {f : En → R PyData} {g : En → R (List Slot)} {pos : Pos}
theorem r0 : PA X [] (tAR X.K c xR0) := pa_imp pa_nil fun σ H Q ⟨F, ρ, hn, r, q⟩ => q F H (Ext.refl r.s) [] .nil
theorem rS (ha : PE X e (tE X.K c f)) (hr : PA X es (tAR X.K c g)) (hs : starEach (e :: es) X.env = (false, eval e X.env) :: starEach es X.env := by rfl) : PA X (e :: es) (tAR X.K c (xRS f g)) := pa_imp (pa_cons ha hr hs) fun σ H Q ⟨F, ρ, hn, r, q⟩ =>
  ⟨F, ρ, r, (Po.bind q).mono fun d F1 H1 _ x1 k v rv => ⟨F1, ρ, hn, r.ext x1, (Po.bind k).mono fun ds F2 H2 _ x2 k2 vs rvs => k2 F2 H2 (Ext.refl x2.s) _ (.cons (.sh (rv.same x2.f)) rvs)⟩⟩
theorem rN (ha : PE X e (tN X.K c f)) (hr : PA X es (tAR X.K c g)) (hs : starEach (e :: es) X.env = (false, eval e X.env) :: starEach es X.env := by rfl) : PA X (e :: es) (tAR X.K c (xRN f g)) := pa_imp (pa_cons ha hr hs) fun σ H Q ⟨F, ρ, hn, r, q⟩ =>
  ⟨F, ρ, hn, r, (Po.bind q).mono fun d F1 H1 _ x1 k v rv => ⟨F1, ρ, hn, r.ext x1, (Po.bind k).mono fun ds F2 H2 _ x2 k2 vs rvs => k2 F2 H2 (Ext.refl x2.s) _ (.cons (.nw (rv.same x2.f)) rvs)⟩⟩
theorem rK (i : Nat) {x : Str} (hr : PA X es (tAR X.K c g)) (hN : X.N[i]? = some x := by rfl) (hv : Vis X.env.scope x := by first | exact Or.inl rfl | exact Or.inr (Or.inl rfl) | exact Or.inr (Or.inr rfl)) (hd : (x == ("__debug__" : Str)) = false := by decide)
    (hcd : (x == ("__classdict__" : Str)) = false := by decide) (hs : starEach (.Name x pos :: es) X.env = (false, eval (.Name x pos) X.env) :: starEach es X.env := by rfl) : PA X (.Name x pos :: es) (tAR X.K c (xRK i g)) := pa_imp (pa_cons (pe_var hN hv hd hcd) hr hs) fun σ H Q ⟨F, ρ, hn, r, q⟩ => by
  unfold xRK at q
  split at q
  · rename_i hs
    refine ⟨c.kn, r.at_ i _ hs, F, ρ, hn, r, (Po.bind q).mono fun ds F2 H2 _ x2 k2 vs rvs => k2 F2 H2 (Ext.refl x2.s) _ (.cons .kn rvs)⟩
  · exact q.elim
end
/-- called with the pair: it comes to what Fn tells, the pair holding what Fn tells -/
def spK (P : Program) (w : World) (K : Fg) (ca : Str → Value) (n : Nat) (Fn : List Slot → List Std → R (PyData × List Std)) : Sp := fun vs H Q E => vs.length = n ∧ ∃ F N k ss sts, Same F H ∧ Same N (mns k H) ∧ Amb P w K N k F H sts ∧ SlotA K N (.ref k.t) F vs ss ∧ match Fn ss sts with
  | .ok (d, sts') => ∀ F' H' v, ExtK k F H F' H' → Amb P w K N k F' H' sts' → Rn K N F' v d → Q v H'
  | .exc m => ∀ H', Same (mns k H) H' → E (ca m) none H'
  | .bad => False
theorem spK_len {P : Program} {w : World} {K : Fg} {ca : Str → Value} {n : Nat} {Fn : List Slot → List Std → R (PyData × List Std)} {ps : List Str} (h : ps.length = n) : ∀ vs H Q E, spK P w K ca n Fn vs H Q E → vs.length = ps.length := fun _ _ _ _ q => q.1.trans h.symm
structure CalK (P : Program) (w : World) (K : Fg) (mg : Str → Option Value) (base : Heap) (ca : Str → Value) (k : Nat) (x : Str) (n : Nat) (Fn : List Slot → List Std → R (PyData × List Std)) : Prop where
  ex : ∃ (f : Addr) (fd : FuncData) (ps : List Str), FnOk P w K mg base (L2.CX P w) k f fd ps (spK P w K ca n Fn) ∧ ps.length = n ∧ mg x = some (.ref f) ∧ PySem.W.keepIn K (.ref f) = true ∧ Binds K fd ps []
def envS (n : Nat) (ss : List Slot) : En := ss ++ List.replicate (n - ss.length) Slot.un
@[simp] def finK (o : OK) : R (PyData × List Std) := match o with
  | .rt d s => .ok (d, s)
  | .ex n => .exc n
  | _ => .bad
theorem startK {K : Fg} {c : Cc} {N : List Str} {F H : Hp} {vs : List V} {ss : List Slot} (e : Ext c.F0 c.H0 F H) (rv : SlotA K c.Hn c.kn F vs ss) : Rl K c F H (envS N.length ss) (L2.start N vs) := by
  have main : ∀ (i : Nat) (s : Slot), (envS N.length ss)[i]? = some s → (∃ v, (L2.start N vs)[i]? = some (some v) ∧ SlotR K c.Hn c.kn F v s) ∨ s = .un := by
    intro i s h
    unfold envS at h
    by_cases hi : i < ss.length
    · rw [List.getElem?_append_left hi] at h
      obtain ⟨v, h3, h4⟩ := rv.get h
      refine Or.inl ⟨v, ?_, h4⟩
      unfold L2.start
      rw [List.getElem?_append_left (by rw [List.length_map]; exact (List.getElem?_eq_some_iff.mp h3).1), List.getElem?_map, h3]
      rfl
    · rw [List.getElem?_append_right (by omega), List.getElem?_replicate] at h
      split at h
      · cases h; exact Or.inr rfl
      · cases h
  refine ⟨?_, e, fun i t e => ?_, fun i j t u p e1 e2 o1 o2 => ?_⟩
  · unfold envS L2.start
    simp only [List.length_append, List.length_map, List.length_replicate, rv.len]
  · rcases main i t e with ⟨v, h1, h2⟩ | h2
    · cases h2 with
      | sh r => exact ⟨_, h1, r⟩
      | nw r => exact ⟨_, h1, r⟩
      | kn => exact h1
    · subst h2; trivial
  · rcases main i t e1 with ⟨v, h1, h2⟩ | h2
    · cases h2 <;> cases o1
    · subst h2; cases o1
section
variable {P : Program} {w : World} {K : Fg} {mg : Str → Option Value} {base : Heap}
theorem mk_calK {x : Str} {st : Stmt} {N ps : List Str} {lv n : Nat} {ca : Str → Value} {Fn : List Slot → List Std → R (PyData × List Std)} {body : En → List Std → OK} (D : DefK K mg x st) (S : FnScope N ps (defScope st)) (hn : ps.length = n)
    (hb : ∀ (kV doc pm : Value) (an : Option Addr) (cdv ct : Value) (us : List Value), us.length = ps.length → bindArgs (PySem.W.fnOf x x (defArgs st) (defBody st) (defScope st) .none kV doc pm an cdv ct) ⟨us, []⟩ = pure (ps.zip us))
    (hbody : ∀ (f : Addr) (cdv : Value) (A : Around) (outer : List Env) (s : Shared) (H : Hp) (E : XK) (c : Cc) (k : Kn), c.ca = ca → Takes (cxOf (L2.CX P w) P w K mg base N x (defScope st) f cdv A outer s H E) c.W → PassesOwn (model P w) (cxOf (L2.CX P w) P w K mg base N x (defScope st) f cdv A outer s H E).A (cxOf (L2.CX P w) P w K mg base N x (defScope st) f cdv A outer s H E).env (cxOf (L2.CX P w) P w K mg base N x (defScope st) f cdv A outer s H E).xe →
      Room lv (cxOf (L2.CX P w) P w K mg base N x (defScope st) f cdv A outer s H E).A → PSs (cxOf (L2.CX P w) P w K mg base N x (defScope st) f cdv A outer s H E) (defBody st) (tZK P w K c k body))
    (hF : ∀ ss sts, ss.length = n → Fn ss sts = finK (body (envS N.length ss) sts)) : CalK P w K mg base ca (lv + 1) x n Fn := by
  obtain ⟨f, fd, Fu, hm⟩ := D.ex
  refine ⟨f, fd, ps, ?_, hn, hm, Fu.kp, Fu.binds hb⟩
  refine Fu.okX S (spK_len hn) fun cdv A outer s H vs Q E hr h => ?_
  obtain ⟨hl, F, M, k, ss, sts, sm, sn, am, rv, q⟩ := h
  have hds : ss.length = n := by rw [← rv.len]; exact hl
  have e0 : Ext F H F H := Ext.refl sm
  refine ⟨_, hbody f cdv A outer s H E ⟨ca, fun cls d _ H => E cls d H, F, mns k H, M, .non⟩ k rfl (takes_of rfl rfl rfl rfl) (passes_of rfl) hr, F, envS N.length ss, sts,
    ⟨startK (by show Ext F (hid k (mns k H) H) F H; rw [hid_mns]; exact e0) rv, am, mns_sa, mns_da, sn⟩, ?_⟩
  rw [hF ss sts hds] at q
  cases hb : body (envS N.length ss) sts with
  | nx ρ s => rw [hb] at q; exact q.elim
  | rt d s =>
    rw [hb] at q
    refine fun F' H' v x am' rv' => q F' H' v ⟨x.f, fun p o h1 h2 e => x.h p o (by show mns k H p = _; rw [mns_ne h1 h2]; exact e), x.s, fun p o e => ?_⟩ am' rv'
    rcases x.n p o e with y | y
    · exact Or.inl y
    · refine Or.inr ?_
      have y : mns k H p = none := y
      rw [mns_ne (fun z => by subst z; rw [am'.fs] at e; cases e) (fun z => by subst z; rw [am'.fd] at e; cases e)] at y
      exact y
  | rn d => rw [hb] at q; exact q.elim
  | ex m => rw [hb] at q; exact fun H' σ' sm' => q H' sm'
  | bad => rw [hb] at q; exact q.elim
end
@[simp] def xClK (n : Nat) (Fn : List Slot → List Std → R (PyData × List Std)) (g : En → R (List Slot)) : En → List Std → R (PyData × List Std) := fun ρ sts => (g ρ).bind fun ss => if ss.length = n then Fn ss sts else .bad
def PoK (P : Program) (w : World) (K : Fg) (c : Cc) (k : Kn) (F H : Hp) (ρ : En) (σ : St) {α : Type} (r : R (α × List Std)) (G : α → List Std → Hp → Hp → Prop) : Prop := match r with
  | .ok (a, sts) => ∀ F' H', Same F F' → RlK P w K c k F' H' ρ sts σ → G a sts F' H'
  | .exc n => ∀ H' σ', Same c.H0 H' → c.W (c.ca n) none σ' H'
  | .bad => False
def tEK (P : Program) (w : World) (K : Fg) (c : Cc) (k : Kn) (f : En → List Std → R (PyData × List Std)) : TE := fun σ H Q => ∃ F ρ sts, RlK P w K c k F H ρ sts σ ∧ PoK P w K c k F H ρ σ (f ρ sts) fun d _ F' H' => ∀ v, Rn K c.Hn F' v d → Q v H'
def tAK (P : Program) (w : World) (K : Fg) (c : Cc) (k : Kn) (f : En → List Std → R (List PyData × List Std)) : TA := fun σ H Q => ∃ F ρ sts, RlK P w K c k F H ρ sts σ ∧ PoK P w K c k F H ρ σ (f ρ sts) fun ds _ F' H' => ∀ vs, RnA K c.Hn F' vs ds → Q vs H'
theorem kCal {X : Cx} {c : Cc} {k : Kn} {e : Expr} {es : List Expr} {g : En → R (List Slot)} {pos p : Pos} {x : Str} {lv j n : Nat} {Fn : List Slot → List Std → R (PyData × List Std)} (C : CalK X.prog X.w X.K X.mg X.base c.ca lv x n Fn) (tk : Takes X c.W) (hr : Room j X.A)
    (ha : ∀ F0 H0 Hn kn, PA X (e :: es) (tAR X.K (cAt c F0 H0 Hn kn) g)) (hk : lv ≤ j := by decide) (hl : (e :: es).length = n := by rfl)
    (hg : Gl X x := by rfl) (hdb : (x == ("__debug__" : Str)) = false := by decide)
    (he : starEach (e :: es) X.env = (false, eval e X.env) :: starEach es X.env := by rfl) (hpl : (backTo pos (starEach es X.env)).any (·.1) = false := by rfl) :
    PE X (.Call (.Name x p) (e :: es) [] pos) (tEK X.prog X.w X.K c k (xClK n Fn g)) := by
  obtain ⟨f, fd, ps, h1, h2, h3, h4, h5⟩ := C.ex
  refine pe_imp (pe_callS h1 (hr.mono hk) hg h3 h4 h5 (fun σ => passAt tk σ) (pa_any ha) hdb he hpl) fun σ H Q ⟨F, ρ, sts, r, q⟩ => ⟨c.F0, hid k c.H0 H, c.Hn, .ref k.t, F, ρ, r.hnh, r.rl, ?_⟩
  unfold xClK at q
  show Po (cK c k H) σ F H (g ρ) _
  generalize hgρ : g ρ = y at q ⊢
  cases y with
  | ok ss =>
    dsimp only [R.bind] at q
    refine fun F1 H1 x1 vs rv => ?_
    by_cases hz : ss.length = n
    · rw [if_pos hz] at q
      have r1 := r.ex x1
      refine ⟨rv.len.trans hz, F1, c.Hn, k, ss, sts, x1.s, ?_, r1.am, rv, ?_⟩
      · intro p o e
        have e2 := r1.hn p o e
        rw [mns_ne (fun z => by subst z; rw [r1.hs] at e2; cases e2) (fun z => by subst z; rw [r1.hd] at e2; cases e2)]
        exact r1.h0 p o e2
      · cases hf : Fn ss sts with
        | ok d =>
          rw [hf] at q
          exact fun F' H' v xe am' r' => q F' H' (x1.f.trans xe.f) (r1.ext xe am') v r'
        | exc m =>
          rw [hf] at q
          refine fun H' sm => q H' σ fun p o e => sm p o ?_
          rw [mns_ne (fun z => by subst z; rw [r1.hs] at e; cases e) (fun z => by subst z; rw [r1.hd] at e; cases e)]
          exact r1.h0 p o e
        | bad => rw [hf] at q; exact q
    · rw [if_neg hz] at q; exact q.elim
  | exc m => exact fun F' H' x => q H' σ (r.h0.trans x.h)
  | bad => exact q
@[simp] def bKS {α : Type} (r : R (α × List Std)) (f : α → List Std → OK) : OK := match r with
  | .ok (a, sts) => f a sts
  | .exc n => .ex n
  | .bad => .bad
@[simp] def ySetK (i : Nat) (f : En → List Std → R (PyData × List Std)) : En → List Std → OK := fun ρ sts => bKS (f ρ sts) fun d sts' => .nx (ρ.set i (.nw d)) sts'
@[simp] def yAppK (i : Nat) (f : En → List Std → R (PyData × List Std)) : En → List Std → OK := fun ρ sts => match ρ[i]? with
  | some (.own ds) => bKS (f ρ sts) fun d sts' => if ds.length < sizeLine then .nx (ρ.set i (.own (ds ++ [d]))) sts' else .bad
  | _ => .bad
@[simp] def yUnpK (i j : Nat) (f : En → List Std → R (PyData × List Std)) : En → List Std → OK := fun ρ sts => bKS (f ρ sts) fun d sts' => match d with
  | .tuple [x, y] => .nx ((ρ.set i (.nw x)).set j (.nw y)) sts'
  | _ => .bad
@[simp] def xK1 (f : En → R PyData) (g : En → List Std → R (List PyData × List Std)) : En → List Std → R (List PyData × List Std) := fun ρ sts => (f ρ).bind fun d => (g ρ sts).bind fun p => .ok (d :: p.1, p.2)
@[simp] def xK0 (f : En → List Std → R (PyData × List Std)) : En → List Std → R (List PyData × List Std) := fun ρ sts => (f ρ sts).bind fun p => .ok ([p.1], p.2)
@[simp] def xKTup (g : En → List Std → R (List PyData × List Std)) : En → List Std → R (PyData × List Std) := fun ρ sts => (g ρ sts).bind fun p => if p.1.length ≤ sizeLine then .ok (.tuple p.1, p.2) else .bad
section
variable {X : Cx} {c : Cc} {k : Kn} {e a b : Expr} {es : List Expr} {f : En → List Std → R (PyData × List Std)} {fp : En → R PyData} {g : En → List Std → R (List PyData × List Std)} {pos pos' : Pos}
theorem OoK.poK {P : Program} {w : World} {K : Fg} {F H : Hp} {D : Ends} {ρ : En} {σ : St} {α : Type} {y : R (α × List Std)} {f : α → List Std → OK} (h : OoK P w K c k F D (bKS y f)) : PoK P w K c k F H ρ σ y fun a sts' F' H' => RlK P w K c k F' H' ρ sts' σ ∧ OoK P w K c k F' D (f a sts') := by
  cases y with
  | ok a => exact fun F' H' x r => ⟨r, OoK.mono h x⟩
  | exc n => exact h
  | bad => exact h
theorem PoK.mono {P : Program} {w : World} {K : Fg} {F H : Hp} {ρ : En} {σ : St} {α : Type} {y : R (α × List Std)} {G G' : α → List Std → Hp → Hp → Prop} (h : PoK P w K c k F H ρ σ y G) (m : ∀ a sts F' H', y = .ok (a, sts) → Same F F' → RlK P w K c k F' H' ρ sts σ → G a sts F' H' → G' a sts F' H') : PoK P w K c k F H ρ σ y G' := by
  cases y with
  | ok a => exact fun F' H' x r => m a.1 a.2 F' H' rfl x r (h F' H' x r)
  | exc n => exact h
  | bad => exact h
theorem kLast (he : PE X e (tEK X.prog X.w X.K c k f)) (hs : starEach (e :: []) X.env = (false, eval e X.env) :: starEach [] X.env := by rfl) : PA X [e] (tAK X.prog X.w X.K c k (xK0 f)) := pa_imp (pa_cons he pa_nil hs) fun σ H Q ⟨F, ρ, sts, r, q⟩ => ⟨F, ρ, sts, r, by
  unfold xK0 at q
  cases hy : f ρ sts with
  | ok p => rw [hy] at q; exact fun F' H' s r' v rv => q F' H' s r' [v] (.cons rv .nil)
  | exc n => rw [hy] at q; exact q
  | bad => rw [hy] at q; exact q⟩
theorem kFirst (he : ∀ F0 H0 Hn kn, PE X e (tN X.K (cAt c F0 H0 Hn kn) fp)) (hr : PA X es (tAK X.prog X.w X.K c k g)) (hs : starEach (e :: es) X.env = (false, eval e X.env) :: starEach es X.env := by rfl) : PA X (e :: es) (tAK X.prog X.w X.K c k (xK1 fp g)) := pa_imp (pa_cons (pe_any he) hr hs) fun σ H Q ⟨F, ρ, sts, r, q⟩ => ⟨c.F0, hid k c.H0 H, c.Hn, .ref k.t, F, ρ, r.hnh, r.rl, by
  unfold xK1 at q
  show Po (cK c k H) σ F H (fp ρ) _
  generalize fp ρ = y at q ⊢
  cases y with
  | ok d =>
    refine fun F1 H1 x1 v rv => ⟨F1, ρ, sts, r.ex x1, ?_⟩
    dsimp only [R.bind] at q
    generalize g ρ sts = z at q ⊢
    cases z with
    | ok p => exact fun F' H' s r' vs rvs => q F' H' (x1.f.trans s) r' (v :: vs) (.cons (rv.same s) rvs)
    | exc n => exact q
    | bad => exact q
  | exc n => exact fun F' H' x => q H' σ (r.h0.trans x.h)
  | bad => exact q⟩
theorem kTup {x1} (h : PA X es (tAK X.prog X.w X.K c k g)) : PE X (.Tuple es x1 pos) (tEK X.prog X.w X.K c k (xKTup g)) := pe_imp (pe_tup h) fun σ H Q ⟨F, ρ, sts, r, q⟩ => ⟨F, ρ, sts, r, by
  unfold xKTup at q
  generalize g ρ sts = y at q ⊢
  cases y with
  | ok p =>
    dsimp only [R.bind] at q
    refine fun F' H' s r' vs rvs => ?_
    by_cases hz : p.1.length ≤ sizeLine
    · rw [if_pos hz] at q
      refine ⟨by rw [rvs.len]; exact hz, fun a ha => ?_⟩
      have x2 : Ext F' H' _ _ := Ext.new (o := .tup vs) r'.rl.s ha
      exact q _ _ (s.trans x2.f) (r'.ex x2) _ (.tup (.of upd_same) (rvs.same x2.f))
    · rw [if_neg hz] at q; exact q.elim
  | exc n => exact q
  | bad => exact q⟩
theorem kSet (i : Nat) {x : Str} (nd : X.N.Nodup) (he : PE X e (tEK X.prog X.w X.K c k f)) (hi : X.N[i]? = some x := by rfl) (hx : Loc X.env.scope x := by first | exact Or.inl rfl | exact Or.inr rfl) (hs : swapsWith e (some (.Name x pos')) pos.line X.env = pure false := by rfl) (hf : X.fn x = true ∨ X.env.scope.names.lookup x = some .local := by exact Or.inl rfl) :
    PS X (.Assign [.Name x pos'] e pos) (tZK X.prog X.w X.K c k (ySetK i f)) := ps_imp (ps_set nd hi hx he hs hf) fun D σ H ⟨F, ρ, sts, r, q⟩ =>
  ⟨F, ρ, sts, r, (OoK.poK q).mono fun d sts' F' H' _ s r' k v rv => k.2 F' H' _ (Same.refl F') (k.1.setN i rv)⟩
theorem kUnp (i j : Nat) {x y : Str} {kt : Nat} {px py pt : Pos} (hc : X.calm = true) (nd : X.N.Nodup) (he : PE X e (tEK X.prog X.w X.K c k f)) (gg : PG X (.Tuple [.Name x px, .Name y py] kt pt) (gT2 X.K 2 (gN [i, j]))) (hs : swapsWithSole [.Tuple [.Name x px, .Name y py] kt pt] e pos.line X.env = pure false := by rfl)
    (hw : swappedStores [.Tuple [.Name x px, .Name y py] kt pt] e X.env = pure none := by rfl) (h1 : (assignEach [.Tuple [.Name x px, .Name y py] kt pt] X.env).map (·.2) = [assign (.Tuple [.Name x px, .Name y py] kt pt) X.env] := by rfl) :
    PS X (.Assign [.Tuple [.Name x px, .Name y py] kt pt] e pos) (tZK X.prog X.w X.K c k (yUnpK i j f)) := ps_imp (ps_asg he gg hs hw h1) fun D σ H ⟨F, ρ, sts, r, q⟩ =>
  ⟨F, ρ, sts, r, (OoK.poK q).mono fun d sts' F' H' _ s r' k v rv => by
    obtain ⟨k1, k2⟩ := k
    split at k2
    · rename_i u1 u2
      cases rv with
      | tup h1 h2 =>
        cases h2 with
        | cons q1 h2 =>
          cases h2 with
          | cons q2 h2 =>
            cases h2
            exact Or.inl ⟨_, _, rfl, sqT_same r'.rl.s h1, rfl, gN_ok rfl (k2 F' H' _ (Same.refl F') ((k1.setN i q1).setN j q2))⟩
    · exact k2.elim⟩
/-- xs.append(call) -/
theorem kApp (i : Nat) {x : Str} {apos cpos px : Pos} (he : PE X e (tEK X.prog X.w X.K c k f)) (hi : X.N[i]? = some x := by rfl) (hv : Vis X.env.scope x := by first | exact Or.inl rfl | exact Or.inr (Or.inl rfl) | exact Or.inr (Or.inr rfl)) (hd : (x == ("__debug__" : Str)) = false := by decide)
    (hcd : (x == ("__classdict__" : Str)) = false := by decide) (hbase : attributeBase (.Name x px) "append" X.env (eval (.Name x px) X.env) = eval (.Name x px) X.env := by rfl)
    (hfew : ((backTo cpos (starEach [e] X.env)).all (fun x => !x.1) && (backToKw cpos (keywordEach [] X.env)).all (fun x => x.1.isSome)
      && decide (([e] : List Expr).length + ([] : List Keyword).length + (if ([] : List Keyword).isEmpty then 0 else 1) < 30)) = true := by rfl)
    (hline : (apos.endLine == cpos.line) = true := by rfl) (hst : starEach [e] X.env = (false, eval e X.env) :: starEach [] X.env := by rfl) (hplain : (backTo cpos (starEach [] X.env)).any (·.1) = false := by rfl)
    (hs : swapsWith (.Call (.Attribute (.Name x px) "append" apos) [e] [] cpos) none pos.line X.env = pure false := by rfl) :
    PS X (.Expr (.Call (.Attribute (.Name x px) "append" apos) [e] [] cpos) pos) (tZK X.prog X.w X.K c k (yAppK i f)) :=
  ps_imp (ps_expr (pe_bm PySem.F.plainAttrs_list PySem.F.slot_list_append PySem.F.type_list_append mt_append (pe_var hi hv hd hcd) (pa_cons he pa_nil hst) hbase hfew hline hst hplain) hs) fun D σ H ⟨F, ρ, sts, r, q⟩ => by
  unfold yAppK at q
  split at q
  · rename_i ds hρ
    obtain ⟨p, vs, es, hp, fp, h0, rv⟩ := r.rl.at_ i _ hρ
    refine ⟨.ref p, es, Or.inl ⟨rfl, vs, .of hp⟩, F, ρ, sts, r, (OoK.poK q).mono fun d sts' F1 H1 _ s r' k v rd => ?_⟩
    obtain ⟨k1, k2⟩ := k
    split at k2
    · rename_i hz
      obtain ⟨p', vs', es', hp', fp', h0', rv'⟩ := r'.rl.at_ i _ hρ
      rw [es] at es'
      cases es'
      exact ⟨p, vs', v, rfl, rfl, hp', by rw [rv'.len]; exact hz, k2 F1 _ σ (Same.refl F1) (r'.back (Same.refl F1) (r'.rl.mut hρ rfl es rfl ⟨p, _, rfl, upd_same, fp', h0', rv'.app (.cons rd.rp .nil)⟩))⟩
    · exact k2.elim
  · exact q.elim
end
/-- lists of one's own come to be new values -/
@[simp] def frzN (i : Nat) (ρ : En) : En := match ρ[i]? with
  | some (.own ds) => if nolists ds = true then ρ.set i (.nw (.list ds)) else ρ
  | some (.owN ds) => ρ.set i (.nw (.list ds))
  | _ => ρ
theorem Rl.freezeN1 {K : Fg} {c : Cc} {F H : Hp} {ρ : En} {σ : St} {i : Nat} {p : Addr} {vs : List V} {ds : List PyData} {t : Slot} (r : Rl K c F H ρ σ) (hn : Same c.Hn c.H0) (e : ρ[i]? = some t) (ot : isOwn t = true) (hs : σ[i]? = some (some (.ref p))) (hp : H p = some (.lst vs)) (hF : F p = none) (h0 : c.H0 p = none) (rd : RnA K c.Hn F vs ds) :
    Same F (upd F p (.lst vs)) ∧ Rl K c (upd F p (.lst vs)) H (ρ.set i (.nw (.list ds))) σ := by
  have sm : Same F (upd F p (.lst vs)) := same_new hF
  have r1 := r.freeze1 e ot hs hp hF h0 (.lst (.of upd_same) (rd.rp.same sm))
  refine ⟨sm, ?_⟩
  have r2 := r1.set (i := i) (s := .nw (.list ds)) (v := .ref p) ⟨.ref p, rfl, .lst upd_same (hn.free h0) (rd.same sm)⟩ (fun z => nomatch z)
  rw [List.set_set, set_self hs] at r2
  exact r2
theorem Rl.freezeN {K : Fg} {c : Cc} {F H : Hp} {ρ : En} {σ : St} (i : Nat) (r : Rl K c F H ρ σ) (hn : Same c.Hn c.H0) : ∃ F', Same F F' ∧ Rl K c F' H (frzN i ρ) σ := by
  unfold frzN
  split
  · rename_i ds e
    obtain ⟨p, vs, e1, h1, h2, h3, r1⟩ := r.at_ i _ e
    split
    · rename_i hz
      obtain ⟨s, q⟩ := r.freezeN1 hn e rfl e1 h1 h2 h3 (r1.rn hz)
      exact ⟨_, s, q⟩
    · exact ⟨F, Same.refl F, r⟩
  · rename_i ds e
    obtain ⟨p, vs, e1, h1, h2, h3, r1⟩ := r.at_ i _ e
    obtain ⟨s, q⟩ := r.freezeN1 hn e rfl e1 h1 h2 h3 r1
    exact ⟨_, s, q⟩
  · exact ⟨F, Same.refl F, r⟩
@[simp] def yFrzK (i : Nat) (g : En → List Std → OK) : En → List Std → OK := fun ρ sts => g (frzN i ρ) sts
theorem kFrz {X : Cx} {c : Cc} {k : Kn} {st : Stmt} {g : En → List Std → OK} (i : Nat) (h1 : PS X st (tZK X.prog X.w X.K c k g)) : PS X st (tZK X.prog X.w X.K c k (yFrzK i g)) := ps_imp h1 fun D σ H ⟨F, ρ, sts, r, q⟩ => by
  obtain ⟨F', s, r'⟩ := r.rl.freezeN i r.hnh
  exact ⟨F', _, sts, r.back s r', q.mono s⟩
end DL
set_option Elab.async false
set_option linter.all false
set_option maxRecDepth 100000
set_option maxHeartbeats 1000000
/-! What looking up a state comes to. -/
namespace DL
open PySem PySem.Spec L2
def stOf : PyData → Option Std
  | .tuple [.str n, .list ds] => (intsOf ds).map fun ns => (n, ns)
  | _ => none
theorem stOf_eq {d : PyData} {st : Std} (h : stOf d = some st) : d = stD st := by
  unfold stOf at h
  split at h
  · simp only [Option.map_eq_some_iff] at h
    obtain ⟨ns, h1, h2⟩ := h
    subst h2
    rw [intsOf_eq h1]
    rfl
  · cases h
theorem stOf_stD (st : Std) : stOf (stD st) = some st := by simp [stOf, stD]
/-- the place of a state; a new one is put last -/
def lookUp (st : Std) (sts : List Std) : OK :=
  if st ∈ sts then .rt (.int (sts.idxOf st : Nat)) sts
  else if sts.length < 120 then .rt (.int (sts.length : Nat)) (sts ++ [st])
  else if sts.length = 120 then .ex "TooMany" else .bad
def m_found_at : En → List Std → OK := fun ρ sts => match ρ with
  | [.kn, .nw d, .un, .un, .un] => (match stOf d with
    | some st => lookUp st sts
    | none => .bad)
  | _ => .bad
def F_found_at : List Slot → List Std → R (PyData × List Std) := fun ss sts => finK (m_found_at (envS 5 ss) sts)
theorem ps_any {X : Cx} {st : Stmt} {t : Hp → Hp → Hp → V → TS} (h : ∀ F0 H0 Hn kn, PS X st (t F0 H0 Hn kn)) : PS X st (fun D σ H => ∃ F0 H0 Hn kn, t F0 H0 Hn kn D σ H) := ⟨fun pins s σ H D I ⟨F0, H0, Hn, kn, q⟩ => (h F0 H0 Hn kn).run pins s σ H D I q⟩
theorem set_get {α : Type} {l : List α} {i j : Nat} {x : α} (h : i < l.length) : (l.set i x)[j]? = if j = i then some x else l[j]? := by
  by_cases e : j = i
  · subst e; rw [if_pos rfl, List.getElem?_set_self h]
  · rw [if_neg e, List.getElem?_set_ne (Ne.symm e)]
theorem upd_comm_none {H : Hp} {a b : Addr} {o : HO} (h : a ≠ b) : (upd H a o) b = H b := upd_ne (Ne.symm h)
theorem rl_un {K : Fg} {c : Cc} {F H : Hp} {σ : St} (e : Ext c.F0 c.H0 F H) : Rl K c F H (List.replicate σ.length .un) σ := by
  have un : ∀ (i : Nat) (s : Slot), (List.replicate σ.length Slot.un)[i]? = some s → s = .un := fun i s h => by
    rw [List.getElem?_replicate] at h
    split at h
    · cases h; rfl
    · cases h
  refine ⟨List.length_replicate, e, fun i s h => ?_, fun i j s t p h1 _ o1 _ => ?_⟩
  · rw [un i s h]; trivial
  · rw [un i s h1] at o1; cases o1
/-- one new value is told of, nothing else -/
theorem rl_one {K : Fg} {c : Cc} {F H : Hp} {σ : St} {j : Nat} {d : PyData} {v : V} (e : Ext c.F0 c.H0 F H) (hj : σ[j]? = some (some v)) (r : Rp K F v d) : Rl K c F H ((List.replicate σ.length .un).set j (.sh d)) σ := by
  have := (rl_un (K := K) (σ := σ) e).setD (i := j) r
  rw [set_self hj] at this
  exact this
section
variable {P : Program} {w : World} {K : Fg} {c : Cc} {k : Kn} {F H : Hp} {sts : List Std} {st : Std} {as : List Addr} {vs : List V} {a : Addr} {v : V}
theorem two_same (fs : F k.sa = none) (fd : F k.da = none) (s : Same F H) {o o' : HO} : Same F (upd (upd H k.da o) k.sa o') := fun p u e => by
  rw [upd_ne (fun z => by subst z; rw [fs] at e; cases e), upd_ne (fun z => by subst z; rw [fd] at e; cases e)]
  exact s p u e
theorem two_amb (am : Amb P w K c.Hn k F H sts) (hn : st ∉ sts) (h1 : H k.sa = some (.lst vs)) (r1 : RnA K c.Hn F vs (sts.map stD)) (r2 : RpA K F (as.map V.ref) (sts.map keyD)) (rv : Rn K c.Hn F v (stD st)) (ra : Rp K F (.ref a) (keyD st)) :
    Amb P w K c.Hn k F (upd (upd H k.da (numO P w k.da (sts ++ [st]) (as ++ [a]))) k.sa (.lst (vs ++ [v]))) (sts ++ [st]) where
  l := ⟨_, upd_same, by rw [List.map_append]; exact r1.app (.cons rv .nil)⟩
  d := ⟨_, by rw [upd_ne am.ne.symm]; exact upd_same, by rw [List.map_append, List.map_append]; exact r2.app (.cons ra .nil)⟩
  fs := am.fs
  fd := am.fd
  nd := by
    rw [List.nodup_append]
    refine ⟨am.nd, List.nodup_cons.mpr ⟨fun z => (nomatch z), List.nodup_nil⟩, fun x hx y hy => ?_⟩
    rw [List.mem_singleton] at hy
    subst hy
    intro z
    subst z
    exact hn hx
  t := am.t
end
theorem idxOf_snoc {st : Std} : ∀ {sts : List Std}, st ∉ sts → (sts ++ [st]).idxOf st = sts.length
  | [], _ => by simp
  | x :: xs, h => by
    have h1 : x ≠ st := fun z => h (by rw [z]; exact List.mem_cons_self)
    have h2 := idxOf_snoc (sts := xs) (fun z => h (List.mem_cons_of_mem _ z))
    rw [List.cons_append, List.idxOf_cons]
    have : (x == st) = false := by simpa using h1
    rw [this, h2]
    rfl
end DL
set_option Elab.async false
set_option linter.all false
set_option maxRecDepth 100000
set_option maxHeartbeats 1000000
/-! The def that lays the pair and goes through the list while it grows. -/
namespace DL
open PySem PySem.Spec L2
def plainS : Slot → Bool
  | .un => true
  | .sh _ => true
  | .nw _ => true
  | _ => false
theorem rl_plain {K : Fg} {c c' : Cc} {F H F' H' : Hp} {ρ : En} {σ : St} (r : Rl K c F H ρ σ) (hp : ρ.all plainS = true) (f : Same F F') (e : Ext c'.F0 c'.H0 F' H') (hn : c'.Hn = c.Hn) : Rl K c' F' H' ρ σ := by
  have pl : ∀ (i : Nat) (s : Slot), ρ[i]? = some s → plainS s = true := fun i s h => List.all_eq_true.mp hp s (List.mem_of_getElem? h)
  refine ⟨r.len, e, fun i s h => ?_, fun i j s t p h1 _ o1 _ => ?_⟩
  · have q := r.at_ i s h
    have := pl i s h
    cases s with
    | un => trivial
    | sh d =>
      obtain ⟨v, a, b⟩ := q
      exact ⟨v, a, b.same f⟩
    | nw d =>
      obtain ⟨v, a, b⟩ := q
      refine ⟨v, a, ?_⟩
      rw [hn]
      exact b.same f
    | own _ => cases this
    | odc _ => cases this
    | kn => cases this
    | owN _ => cases this
  · have := pl i s h1
    cases s <;> first | cases this; done | cases o1
@[simp] def offK (o : OK) (ρ : En) : O := match o with
  | .rn d => .rt d
  | .ex n => .ex n ρ
  | _ => .bad
def yStart (i j : Nat) (g : En → List Std → OK) : En → O := fun ρ => match ρ[j]? with
  | some (.nw d) => (match stOf d with
    | some st => if ρ.all plainS = true then offK (g (ρ.set i .kn) [st]) ρ else .bad
    | none => .bad)
  | _ => .bad
/-- the key of the state at the name j, said in the text -/
def xKey (j : Nat) : En → R PyData := xTup (xCons (xB ixD (xVar j) (xC (.int 0))) (xCons (xF tupleD (xCons (xB ixD (xVar j) (xC (.int 1))) xNil)) xNil))
theorem xKey_ok {ρ : En} {j : Nat} {st : Std} (h : ρ[j]? = some (.sh (stD st)) ∨ ρ[j]? = some (.nw (stD st))) : xKey j ρ = .ok (keyD st) := by
  rcases h with h | h <;> simp [xKey, h, R.bind, atI, xTup, xCons, xB, xVar, xC, ixD, xF, xNil, stD, keyD, tupleD, sizeLine_eq, ixN]
theorem kStart {X : Cx} {c : Cc} {rest : List Stmt} {g : En → List Std → OK} {x y : Str} {px py p1 p2 p3 pos : Pos} {key zero : Expr} {j1 lv : Nat} (i j : Nat) (nd : X.N.Nodup) (hr : Room lv X.A)
    (hkey : ∀ F0 H0 Hn kn, PE X key (tE X.K (cAt c F0 H0 Hn kn) (xKey j))) (hzero : PE X zero (tC (.int 0))) (hrest : ∀ k, PSs X rest (tZK X.prog X.w X.K c k g))
    (hi : X.N[i]? = some x := by rfl) (hj : X.N[j]? = some y := by rfl) (hv : Vis X.env.scope y := by first | exact Or.inl rfl | exact Or.inr (Or.inl rfl) | exact Or.inr (Or.inr rfl)) (hd : (y == ("__debug__" : Str)) = false := by decide) (hcd : (y == ("__classdict__" : Str)) = false := by decide)
    (hx : Loc X.env.scope x := by first | exact Or.inl rfl | exact Or.inr rfl) (hs : swapsWith (.Tuple [.List [.Name y py] p1, .Dict [some key] [zero] p2] j1 p3) (some (.Name x px)) pos.line X.env = pure false := by rfl) (hf : X.fn x = true ∨ X.env.scope.names.lookup x = some .local := by exact Or.inl rfl)
    (s1 : starEach [.Name y py] X.env = (false, eval (.Name y py) X.env) :: starEach [] X.env := by rfl) (s2 : starEach [.Dict [some key] [zero] p2] X.env = (false, eval (.Dict [some key] [zero] p2) X.env) :: starEach [] X.env := by rfl)
    (s3 : starEach [.List [.Name y py] p1, .Dict [some key] [zero] p2] X.env = (false, eval (.List [.Name y py] p1) X.env) :: starEach [.Dict [some key] [zero] p2] X.env := by rfl) :
    PSs X (.Assign [.Name x px] (.Tuple [.List [.Name y py] p1, .Dict [some key] [zero] p2] j1 p3) pos :: rest) (tZN X.K c (yStart i j g)) := by
  refine pss_imp (pss_cons (ps_set nd hi hx (pe_tup (pa_cons (pe_lst (pa_cons (pe_var hj hv hd hcd) pa_nil s1)) (pa_cons (pe_nmNew hr (pe_any hkey) hzero) pa_nil s2) s3)) hs hf)
    (u := fun D σ H => ∃ k, tZK X.prog X.w X.K c k g D σ H) ⟨fun pins s σ H D I ⟨k, q⟩ => (hrest k).run pins s σ H D I q⟩) ?_
  intro D σ H ⟨F, ρ, hn, r, q⟩
  unfold yStart at q
  split at q
  · rename_i d hρ
    split at q
    · rename_i st hst
      have := stOf_eq hst
      subst this
      split at q
      · rename_i hpl
        obtain ⟨v, hv1, rv⟩ := r.at_ j _ hρ
        refine ⟨v, hv1, by rw [sizeLine_eq]; show 1 ≤ 16777216; decide, fun sa hsa => ?_⟩
        have hsaF : F sa = none := r.s.free hsa
        intro da hda
        have hda' : H da = none := by
          by_cases z : da = sa
          · subst z; exact hsa
          · rw [upd_ne z] at hda; exact hda
        have hne : da ≠ sa := fun z => by subst z; rw [upd_same] at hda; cases hda
        have hdaF : F da = none := r.s.free hda'
        have x1 : Ext F H F (upd (upd H sa (.lst [v])) da (numO X.prog X.w da [] [])) := (Ext.own r.s hsa).trans (Ext.own (Ext.own r.s hsa).s hda)
        have r1 := r.ext x1
        refine ⟨F, _, c.Hn, .non, F, ρ, rl_plain r1 hpl (Same.refl F) (Ext.refl x1.s) rfl, ?_⟩
        refine Eq.mpr (congrArg (fun y => Po _ _ _ _ y _) (xKey_ok (Or.inr hρ))) ?_
        intro F1 H1 x2 ka rka
        have hda1 : H1 da = some (numO X.prog X.w da [] []) := x2.h _ _ upd_same
        have hsa1 : H1 sa = some (.lst [v]) := x2.h _ _ (by rw [upd_ne hne.symm]; exact upd_same)
        obtain ⟨a, rfl⟩ : ∃ a, ka = .ref a := by
          cases rka with
          | tup h _ => exact ⟨_, rfl⟩
        refine ⟨st, a, rfl, rfl, hda1, rka.same x2.s, ?_⟩
        refine ⟨by rw [sizeLine_eq]; show 2 ≤ 16777216; decide, fun t ht => ?_⟩
        have fsa : F1 sa = none := x2.own_none (by rw [upd_ne hne.symm]; exact upd_same) hsaF
        have fda : F1 da = none := x2.own_none upd_same hdaF
        have tda : t ≠ da := fun z => by subst z; rw [upd_same] at ht; cases ht
        have ht1 : H1 t = none := by rw [upd_ne tda] at ht; exact ht
        have tsa : t ≠ sa := fun z => by subst z; rw [hsa1] at ht1; cases ht1
        have ftn : F1 t = none := x2.s.free ht1
        have x12 : Ext F H F1 H1 := x1.trans x2
        have sm : Same F1 (upd F1 t (.tup [.ref sa, .ref da])) := same_new ftn
        have hH0t : c.H0 t = none := r.e.h.free (x12.h.free ht1)
        have hH0sa : c.H0 sa = none := r.e.h.free hsa
        have hH0da : c.H0 da = none := r.e.h.free hda'
        have sH : Same (upd F1 t (.tup [.ref sa, .ref da])) (upd (upd H1 da (numO X.prog X.w da [st] [a])) t (.tup [.ref sa, .ref da])) := fun p o e => by
          by_cases z : p = t
          · subst z; rw [upd_same] at e ⊢; exact e
          · rw [upd_ne z] at e ⊢
            rw [upd_ne (fun y => by subst y; rw [fda] at e; cases e)]
            exact x2.s p o e
        have hold : ∀ p o, c.H0 p = some o → (upd (upd H1 da (numO X.prog X.w da [st] [a])) t (.tup [.ref sa, .ref da])) p = some o := fun p o e => by
          rw [upd_ne (fun z => by subst z; rw [hH0t] at e; cases e), upd_ne (fun z => by subst z; rw [hH0da] at e; cases e)]
          exact x12.h p o (r.e.h p o e)
        have fn : ∀ p o, (upd F1 t (.tup [.ref sa, .ref da])) p = some o → c.F0 p = some o ∨ c.H0 p = none := fun p o e => by
          by_cases z : p = t
          · subst z; exact Or.inr hH0t
          · rw [upd_ne z] at e
            rcases x12.n p o e with y | y
            · exact r.e.n p o y
            · exact Or.inr (r.e.h.free y)
        have am : Amb X.prog X.w X.K c.Hn ⟨t, sa, da⟩ (upd F1 t (.tup [.ref sa, .ref da])) (upd (upd H1 da (numO X.prog X.w da [st] [a])) t (.tup [.ref sa, .ref da])) [st] := by
          refine ⟨⟨[v], ?_, .cons (rv.same (x12.f.trans sm)) .nil⟩, ⟨[a], ?_, .cons (rka.same sm) .nil⟩, ?_, ?_, List.nodup_cons.mpr ⟨(fun z => (nomatch z)), List.nodup_nil⟩, .of upd_same⟩
          · rw [upd_ne tsa.symm, upd_ne hne.symm]; exact hsa1
          · rw [upd_ne tda.symm]; exact upd_same
          · rw [upd_ne tsa.symm]; exact fsa
          · rw [upd_ne tda.symm]; exact fda
        refine ⟨⟨t, sa, da⟩, upd F1 t (.tup [.ref sa, .ref da]), ρ.set i .kn, [st], ⟨?_, am, hH0sa, hH0da, hn⟩, ?_⟩
        · refine (rl_plain (c' := cK c ⟨t, sa, da⟩ _) r hpl (x12.f.trans sm) ⟨r.e.f.trans (x12.f.trans sm), fun p o e => ?_, sH, fun p o e => ?_⟩ rfl).set rfl (fun z => nomatch z)
          · have e : hid ⟨t, sa, da⟩ c.H0 _ p = some o := e
            by_cases z1 : p = sa
            · subst z1; rw [hid_sa (k := ⟨t, p, da⟩)] at e; exact e
            · by_cases z2 : p = da
              · subst z2; rw [hid_da (k := ⟨t, sa, p⟩)] at e; exact e
              · rw [hid_ne z1 z2] at e; exact hold p o e
          · have z1 : p ≠ sa := fun z => by subst z; rw [am.fs] at e; cases e
            have z2 : p ≠ da := fun z => by subst z; rw [am.fd] at e; cases e
            show c.F0 p = some o ∨ hid ⟨t, sa, da⟩ c.H0 _ p = none
            rw [hid_ne z1 z2]
            exact fn p o e
        · generalize g (ρ.set i .kn) [st] = y at q
          cases y with
          | nx ρ' s => exact q.elim
          | rt d s => exact q.elim
          | rn d => exact q
          | ex n => exact q
          | bad => exact q.elim
      · exact q.elim
    · exact q.elim
  · exact q.elim
end DL
set_option Elab.async false
set_option linter.all false
set_option maxRecDepth 100000
set_option maxHeartbeats 1000000
/-! The loop over the growing list, its turns, its end. -/
namespace DL
open PySem PySem.Spec L2
@[simp] def yOwNK (i : Nat) (f : En → R (List PyData)) : En → List Std → OK := fun ρ sts => bK (f ρ) fun ds => if nolists ds = true then .nx (ρ.set i (.owN ds)) sts else .bad
@[simp] def yAppN (i : Nat) (f : En → R PyData) : En → List Std → OK := fun ρ sts => match ρ[i]? with
  | some (.owN ds) => bK (f ρ) fun d => if ds.length < sizeLine then .nx (ρ.set i (.owN (ds ++ [d]))) sts else .bad
  | _ => .bad
def whileS (ib ik : Nat) (body : En → List Std → OK) : Nat → En → List Std → OK
  | 0, _, _ => .bad
  | n + 1, ρ, sts => match ρ[ib]?, ρ[ik]? with
    | some (.owN ds), some .kn => if ds.length < sts.length then seqK (body ρ sts) (whileS ib ik body n) else .nx ρ sts
    | _, _ => .bad
@[simp] def yState (i ib ik : Nat) : En → List Std → OK := fun ρ sts => match ρ[ib]?, ρ[ik]? with
  | some (.owN ds), some .kn => (match sts[ds.length]? with
    | some st => .nx (ρ.set i (.nw (stD st))) sts
    | none => .bad)
  | _, _ => .bad
@[simp] def yFin (ib iw ik : Nat) : En → List Std → OK := fun ρ sts => match ρ[ib]?, ρ[iw]?, ρ[ik]? with
  | some (.owN bs), some (.owN ws), some .kn => .rn (.tuple [.list bs, .list (sts.map stD), .list ws])
  | _, _, _ => .bad
theorem atI_nat {α : Type} {xs : List α} {n : Nat} {x : α} (h : xs[n]? = some x) : atI xs (n : Int) = some x := by
  unfold atI ixN
  have hl : n < xs.length := (List.getElem?_eq_some_iff.mp h).1
  have h0 : (0 : Int) ≤ (n : Int) := Int.natCast_nonneg n
  have h1 : (n : Int) < (xs.length : Int) := by omega
  simp [h0, h1, h]
section
variable {X : Cx} {c : Cc} {k : Kn} {e a b : Expr} {pos pos' : Pos}
theorem kOwN (i : Nat) {x : Str} {f : En → R (List PyData)} (nd : X.N.Nodup) (he : ∀ F0 H0 Hn kn, PE X e (tL X.K (cAt c F0 H0 Hn kn) f)) (hi : X.N[i]? = some x := by rfl) (hx : Loc X.env.scope x := by first | exact Or.inl rfl | exact Or.inr rfl) (hs : swapsWith e (some (.Name x pos')) pos.line X.env = pure false := by rfl) (hf : X.fn x = true ∨ X.env.scope.names.lookup x = some .local := by exact Or.inl rfl) :
    PS X (.Assign [.Name x pos'] e pos) (tZK X.prog X.w X.K c k (yOwNK i f)) := ps_imp (ps_set nd hi hx (pe_any he) hs hf) fun D σ H ⟨F, ρ, sts, r, q⟩ =>
  ⟨c.F0, hid k c.H0 H, c.Hn, .ref k.t, F, ρ, r.rl, (OoK.po r q).mono fun ds F' H' _ x1 kk p vs h1 h2 h3 rv => by
    obtain ⟨k1, k2⟩ := kk
    split at k2
    · rename_i hz
      obtain ⟨ws, g1, _⟩ := r.am.l
      obtain ⟨as, g2, _⟩ := r.am.d
      have z1 : p ≠ k.sa := fun z => by subst z; rw [g1] at h3; cases h3
      have z2 : p ≠ k.da := fun z => by subst z; rw [g2] at h3; cases h3
      refine k2 F' H' _ (Same.refl F') ⟨k1.rl.set ⟨p, vs, rfl, h1, h2, ?_, rv.rn hz⟩ fun _ j t q e _ ej ot hj => ?_, k1.am, k1.hs, k1.hd, k1.hn⟩
      · show hid _ c.H0 H' p = none
        rw [hid_ne z1 z2]
        exact r.h0.free h3
      · cases e
        obtain ⟨u, hu, _⟩ := r.rl.ownAt ej ot hj
        rw [h3] at hu; cases hu
    · exact k2.elim⟩
theorem kAppN (i : Nat) {x : Str} {apos cpos px : Pos} {f : En → R PyData} (he : ∀ F0 H0 Hn kn, PE X e (tN X.K (cAt c F0 H0 Hn kn) f)) (hi : X.N[i]? = some x := by rfl) (hv : Vis X.env.scope x := by first | exact Or.inl rfl | exact Or.inr (Or.inl rfl) | exact Or.inr (Or.inr rfl)) (hd : (x == ("__debug__" : Str)) = false := by decide)
    (hcd : (x == ("__classdict__" : Str)) = false := by decide) (hbase : attributeBase (.Name x px) "append" X.env (eval (.Name x px) X.env) = eval (.Name x px) X.env := by rfl)
    (hfew : ((backTo cpos (starEach [e] X.env)).all (fun x => !x.1) && (backToKw cpos (keywordEach [] X.env)).all (fun x => x.1.isSome)
      && decide (([e] : List Expr).length + ([] : List Keyword).length + (if ([] : List Keyword).isEmpty then 0 else 1) < 30)) = true := by rfl)
    (hline : (apos.endLine == cpos.line) = true := by rfl) (hst : starEach [e] X.env = (false, eval e X.env) :: starEach [] X.env := by rfl) (hplain : (backTo cpos (starEach [] X.env)).any (·.1) = false := by rfl)
    (hs : swapsWith (.Call (.Attribute (.Name x px) "append" apos) [e] [] cpos) none pos.line X.env = pure false := by rfl) :
    PS X (.Expr (.Call (.Attribute (.Name x px) "append" apos) [e] [] cpos) pos) (tZK X.prog X.w X.K c k (yAppN i f)) :=
  ps_imp (ps_expr (pe_bm PySem.F.plainAttrs_list PySem.F.slot_list_append PySem.F.type_list_append mt_append (pe_var hi hv hd hcd) (pa_cons (pe_any he) pa_nil hst) hbase hfew hline hst hplain) hs) fun D σ H ⟨F, ρ, sts, r, q⟩ => by
  unfold yAppN at q
  split at q
  · rename_i ds hρ
    obtain ⟨p, vs, es, hp, fp, h0, rv⟩ := r.rl.at_ i _ hρ
    refine ⟨.ref p, es, Or.inl ⟨rfl, vs, .of hp⟩, c.F0, hid k c.H0 H, c.Hn, .ref k.t, F, ρ, r.hnh, r.rl, (OoK.po r q).mono fun d F1 H1 _ x1 k v rd => ?_⟩
    obtain ⟨k1, k2⟩ := k
    split at k2
    · rename_i hz
      obtain ⟨p', vs', es', hp', fp', h0', rv'⟩ := k1.rl.at_ i _ hρ
      rw [es] at es'
      cases es'
      exact ⟨p, vs', v, rfl, rfl, hp', by rw [rv'.len]; exact hz, k2 F1 _ σ (Same.refl F1) (k1.back (Same.refl F1) (k1.rl.mut hρ rfl es rfl ⟨p, _, rfl, upd_same, fp', h0', rv'.app (.cons rd .nil)⟩))⟩
    · exact k2.elim
  · exact q.elim
/-- known[0] -/
theorem kn0 {ik : Nat} {x : Str} {p1 p2 : Pos} {j1} (hi : X.N[ik]? = some x) (hv : Vis X.env.scope x) (hd : (x == ("__debug__" : Str)) = false) (hcd : (x == ("__classdict__" : Str)) = false) :
    PE X (.Subscript (.Name x p1) (.Constant (.int 0) j1 p2) pos) (fun σ H Q => ∃ F ρ sts, RlK X.prog X.w X.K c k F H ρ sts σ ∧ ρ[ik]? = some .kn ∧ Q (.ref k.sa) H) :=
  pe_imp (pe_ix ix_seq (pe_var hi hv hd hcd) pe_int (by exact fun _ _ => rfl)) fun σ H Q ⟨F, ρ, sts, r, h, q⟩ =>
    ⟨.ref k.t, r.rl.at_ ik _ h, Or.inr (Or.inl ⟨k.t, _, 0, .ref k.sa, rfl, rfl, sqT_same r.rl.s r.am.t, rfl, q⟩)⟩
theorem kWhileS {X : Cx} {c : Cc} {k : Kn} {body : List Stmt} {b : En → List Std → OK} {x y : Str} {p1 p2 p3 p4 p5 p6 p7 pos cp : Pos} {j1} (n ib ik : Nat) (hp : PassesOwn (model X.prog X.w) X.A X.env X.xe) (hb : PSs X body (tZK X.prog X.w X.K c k b)) (hg : Gl X "len") (hm : X.mg "len" = none)
    (hi : X.N[ib]? = some x := by rfl) (hj : X.N[ik]? = some y := by rfl) (hv : Vis X.env.scope x := by first | exact Or.inl rfl | exact Or.inr (Or.inl rfl) | exact Or.inr (Or.inr rfl)) (hv' : Vis X.env.scope y := by first | exact Or.inl rfl | exact Or.inr (Or.inl rfl) | exact Or.inr (Or.inr rfl)) (hd : (x == ("__debug__" : Str)) = false := by decide)
    (hcd : (x == ("__classdict__" : Str)) = false := by decide) (hd' : (y == ("__debug__" : Str)) = false := by decide) (hcd' : (y == ("__classdict__" : Str)) = false := by decide)
    (s1 : starEach [.Name x p1] X.env = (false, eval (.Name x p1) X.env) :: starEach [] X.env := by rfl) (s2 : starEach [.Subscript (.Name y p2) (.Constant (.int 0) j1 p3) p4] X.env = (false, eval (.Subscript (.Name y p2) (.Constant (.int 0) j1 p3) p4) X.env) :: starEach [] X.env := by rfl)
    (e1 : (backTo p6 (starEach [] X.env)).any (·.1) = false := by rfl) (e2 : (backTo p7 (starEach [] X.env)).any (·.1) = false := by rfl) :
    PS X (.While (.Compare (.Call (.Name "len" p5) [.Name x p1] [] p6) [.Lt] [.Call (.Name "len" pos) [.Subscript (.Name y p2) (.Constant (.int 0) j1 p3) p4] [] p7] cp) body [] pos') (tZK X.prog X.w X.K c k (whileS ib ik b n)) :=
  ps_imp (ps_while hp (pt_cmpR op_lt (pe_callB call_lenX hg hm (by decide +kernel) (pa_cons (pe_var hi hv hd hcd) pa_nil s1) (by decide) (by decide) s1 e1) (pe_callB call_lenX hg hm (by decide +kernel) (pa_cons (kn0 (c := c) (k := k) hj hv' hd' hcd') pa_nil s2) (by decide) (by decide) s2 e2) (nomark _)) hb) fun D σ H ⟨F, ρ, sts, r, q⟩ => by
    refine ⟨fun m σ H => ∃ F ρ sts, RlK X.prog X.w X.K c k F H ρ sts σ ∧ OoK X.prog X.w X.K c k F D (whileS ib ik b m ρ sts), ⟨n, F, ρ, sts, r, q⟩, ?_⟩
    rintro m σ H ⟨F, ρ, sts, r, q⟩
    cases m with
    | zero => exact q.elim
    | succ m =>
      unfold whileS at q
      split at q
      · rename_i ds h1 h2
        obtain ⟨p, vs, es, hp, fp, h0, rv⟩ := r.rl.at_ ib _ h1
        obtain ⟨ws, g1, g2⟩ := r.am.l
        refine ⟨.ref p, es, Or.inl ⟨.ref p, _, rfl, Or.inl ⟨vs, .of hp, rfl⟩, ⟨F, ρ, sts, r, h2, Or.inl ⟨.ref k.sa, _, rfl, Or.inl ⟨ws, .of g1, rfl⟩, ?_⟩⟩⟩⟩
        refine ⟨_, _, rfl, rfl, _, rfl, ?_⟩
        have lw : ws.length = sts.length := by rw [g2.len, List.length_map]
        rw [rv.len, lw]
        by_cases hz : ds.length < sts.length
        · rw [if_pos hz] at q
          have hz' : ((ds.length : Int) < sts.length) := by omega
          simp only [hz', decide_true]
          refine ⟨fun σ' H' => ∃ F ρ sts, RlK X.prog X.w X.K c k F H' ρ sts σ' ∧ OoK X.prog X.w X.K c k F D (whileS ib ik b m ρ sts), fun σ' H' z => ⟨m, Nat.lt_succ_self m, z⟩, F, ρ, sts, r, ?_⟩
          cases hbo : b ρ sts with
          | nx ρ5 sts5 => rw [hbo] at q; exact fun F' H' σ' s5 r5 => ⟨F', ρ5, sts5, r5, q.mono s5⟩
          | rt d s => rw [hbo] at q; exact q
          | rn d => rw [hbo] at q; exact q
          | ex n => rw [hbo] at q; exact q
          | bad => rw [hbo] at q; exact q
        · rw [if_neg hz] at q
          have hz' : ¬ ((ds.length : Int) < sts.length) := by omega
          simp only [hz', decide_false]
          exact q F H σ (Same.refl F) r
      · exact q.elim
theorem kState {x y z : Str} {pt p1 p2 p3 p4 p5 p6 p7 : Pos} {j1} (i ib ik : Nat) (nd : X.N.Nodup) (hg : Gl X "len") (hm : X.mg "len" = none)
    (hz : X.N[i]? = some z := by rfl) (hi : X.N[ib]? = some x := by rfl) (hj : X.N[ik]? = some y := by rfl) (hv : Vis X.env.scope x := by first | exact Or.inl rfl | exact Or.inr (Or.inl rfl) | exact Or.inr (Or.inr rfl)) (hv' : Vis X.env.scope y := by first | exact Or.inl rfl | exact Or.inr (Or.inl rfl) | exact Or.inr (Or.inr rfl)) (hd : (x == ("__debug__" : Str)) = false := by decide)
    (hcd : (x == ("__classdict__" : Str)) = false := by decide) (hd' : (y == ("__debug__" : Str)) = false := by decide) (hcd' : (y == ("__classdict__" : Str)) = false := by decide)
    (hx : Loc X.env.scope z := by first | exact Or.inl rfl | exact Or.inr rfl)
    (hs : swapsWith (.Subscript (.Subscript (.Name y p2) (.Constant (.int 0) j1 p3) p4) (.Call (.Name "len" p5) [.Name x p1] [] p6) p7) (some (.Name z pt)) pos.line X.env = pure false := by rfl) (hf : X.fn z = true ∨ X.env.scope.names.lookup z = some .local := by exact Or.inl rfl)
    (s1 : starEach [.Name x p1] X.env = (false, eval (.Name x p1) X.env) :: starEach [] X.env := by rfl) (e1 : (backTo p6 (starEach [] X.env)).any (·.1) = false := by rfl) :
    PS X (.Assign [.Name z pt] (.Subscript (.Subscript (.Name y p2) (.Constant (.int 0) j1 p3) p4) (.Call (.Name "len" p5) [.Name x p1] [] p6) p7) pos) (tZK X.prog X.w X.K c k (yState i ib ik)) :=
  ps_imp (ps_set nd hz hx (pe_ix ix_seq (kn0 (c := c) (k := k) hj hv' hd' hcd') (pe_callB call_lenX hg hm (by decide +kernel) (pa_cons (pe_var hi hv hd hcd) pa_nil s1) (by decide) (by decide) s1 e1) (by exact fun _ _ => rfl)) hs hf) fun D σ H ⟨F, ρ, sts, r, q⟩ => by
    unfold yState at q
    split at q
    · rename_i ds h1 h2
      obtain ⟨p, vs, es, hp, fp, h0, rv⟩ := r.rl.at_ ib _ h1
      obtain ⟨ws, g1, g2⟩ := r.am.l
      split at q
      · rename_i st hst
        have hst' : (sts.map stD)[ds.length]? = some (stD st) := by rw [List.getElem?_map, hst]; rfl
        obtain ⟨v, hv, rvv⟩ := g2.get hst'
        refine ⟨F, ρ, sts, r, h2, ⟨.ref p, es, Or.inl ⟨.ref p, _, rfl, Or.inl ⟨vs, .of hp, rfl⟩, Or.inl ⟨k.sa, ws, _, v, rfl, rfl, .of g1, ?_, q F H _ (Same.refl F) (r.setN i rvv)⟩⟩⟩⟩
        rw [rv.len]
        exact atI_nat hv
      · exact q.elim
    · exact q.elim
theorem kFin {x y z : Str} {p1 p2 p3 p4 p5 p6 : Pos} {j1 j2} (ib iw ik : Nat) (hi : X.N[ib]? = some x := by rfl) (hw : X.N[iw]? = some z := by rfl) (hj : X.N[ik]? = some y := by rfl) (hv : Vis X.env.scope x := by first | exact Or.inl rfl | exact Or.inr (Or.inl rfl) | exact Or.inr (Or.inr rfl)) (hv' : Vis X.env.scope y := by first | exact Or.inl rfl | exact Or.inr (Or.inl rfl) | exact Or.inr (Or.inr rfl)) (hv2 : Vis X.env.scope z := by first | exact Or.inl rfl | exact Or.inr (Or.inl rfl) | exact Or.inr (Or.inr rfl)) (hd : (x == ("__debug__" : Str)) = false := by decide)
    (hcd : (x == ("__classdict__" : Str)) = false := by decide) (hd' : (y == ("__debug__" : Str)) = false := by decide) (hcd' : (y == ("__classdict__" : Str)) = false := by decide) (hd2 : (z == ("__debug__" : Str)) = false := by decide) (hcd2 : (z == ("__classdict__" : Str)) = false := by decide)
    (s1 : starEach [.Name z p6] X.env = (false, eval (.Name z p6) X.env) :: starEach [] X.env := by rfl) (s2 : starEach [.Subscript (.Name y p2) (.Constant (.int 0) j1 p3) p4, .Name z p6] X.env = (false, eval (.Subscript (.Name y p2) (.Constant (.int 0) j1 p3) p4) X.env) :: starEach [.Name z p6] X.env := by rfl)
    (s3 : starEach [.Name x p1, .Subscript (.Name y p2) (.Constant (.int 0) j1 p3) p4, .Name z p6] X.env = (false, eval (.Name x p1) X.env) :: starEach [.Subscript (.Name y p2) (.Constant (.int 0) j1 p3) p4, .Name z p6] X.env := by rfl) :
    PS X (.Return (some (.Tuple [.Name x p1, .Subscript (.Name y p2) (.Constant (.int 0) j1 p3) p4, .Name z p6] j2 p5)) pos) (tZK X.prog X.w X.K c k (yFin ib iw ik)) :=
  ps_imp (ps_ret (pe_tup (pa_cons (pe_var hi hv hd hcd) (pa_cons (kn0 (c := c) (k := k) hj hv' hd' hcd') (pa_cons (pe_var hw hv2 hd2 hcd2) pa_nil s1) s2) s3))) fun D σ H ⟨F, ρ, sts, r, q⟩ => by
    unfold yFin at q
    split at q
    · rename_i bs ws h1 h2 h3
      obtain ⟨pb, vb, eb, hb, fb, h0b, rb⟩ := r.rl.at_ ib _ h1
      obtain ⟨pw, vw, ew, hw', fw, h0w, rw'⟩ := r.rl.at_ iw _ h2
      obtain ⟨us, g1, g2⟩ := r.am.l
      refine ⟨.ref pb, eb, F, ρ, sts, r, h3, .ref pw, ew, by rw [sizeLine_eq]; show 3 ≤ 16777216; decide, fun t ht => ?_⟩
      have hid0 : ∀ p : Addr, (cK c k H).H0 p = none → c.H0 p = none ∧ p ≠ k.sa ∧ p ≠ k.da := fun p hp => by
        obtain ⟨as, g3, _⟩ := r.am.d
        have hp : hid k c.H0 H p = none := hp
        have z1 : p ≠ k.sa := fun z => by subst z; rw [hid_sa, g1] at hp; cases hp
        have z2 : p ≠ k.da := fun z => by subst z; rw [hid_da, g3] at hp; cases hp
        rw [hid_ne z1 z2] at hp
        exact ⟨hp, z1, z2⟩
      obtain ⟨b0, bs1, bs2⟩ := hid0 pb h0b
      obtain ⟨w0, ws1, ws2⟩ := hid0 pw h0w
      -- told of, one by one
      have tell : ∀ (G : Hp) (p : Addr) (o : HO), Ext c.F0 c.H0 G H → Same F G → H p = some o → c.H0 p = none → (G p = none ∨ G p = some o) → Ext c.F0 c.H0 (upd G p o) H ∧ Same F (upd G p o) ∧ Same G (upd G p o) := fun G p o e s hp h0 hG => by
        have sm : Same G (upd G p o) := fun b u eb => by
          by_cases z : b = p
          · subst z
            rcases hG with y | y
            · rw [y] at eb; cases eb
            · rw [upd_same, ← eb, y]
          · rw [upd_ne z]; exact eb
        refine ⟨⟨e.f.trans sm, e.h, Same.freeze e.s hp, fun b u eb => ?_⟩, s.trans sm, sm⟩
        by_cases z : b = p
        · subst z; exact Or.inr h0
        · rw [upd_ne z] at eb; exact e.n b u eb
      obtain ⟨e1, s1', m1⟩ := tell F pb _ r.e0 (Same.refl F) hb b0 (Or.inl fb)
      have gw : (upd F pb (.lst vb)) pw = none ∨ (upd F pb (.lst vb)) pw = some (.lst vw) := by
        by_cases z : pw = pb
        · subst z
          rw [hb] at hw'
          cases hw'
          exact Or.inr upd_same
        · rw [upd_ne z]; exact Or.inl fw
      obtain ⟨e2, s2', m2⟩ := tell _ pw _ e1 s1' hw' w0 gw
      have gs : (upd (upd F pb (.lst vb)) pw (.lst vw)) k.sa = none := by rw [upd_ne ws1.symm, upd_ne bs1.symm]; exact r.am.fs
      obtain ⟨e3, s3', m3⟩ := tell _ k.sa _ e2 s2' g1 r.hs (Or.inl gs)
      have x4 : Ext _ H _ _ := Ext.new (o := .tup [.ref pb, .ref k.sa, .ref pw]) e3.s ht
      refine q _ _ _ (e3.trans x4) (.tup (.of upd_same) (.cons ?_ (.cons ?_ (.cons ?_ .nil))))
      · exact (Rn.lst (m3 _ _ (m2 _ _ upd_same)) (r.hn.free b0) ((rb.same s3'))).same x4.f
      · exact (Rn.lst upd_same (r.hn.free r.hs) (g2.same s3')).same x4.f
      · exact (Rn.lst (m3 _ _ upd_same) (r.hn.free w0) (rw'.same s3')).same x4.f
    · exact q.elim
end
theorem eCalN {X : Cx} {c : Cc} {e : Expr} {es : List Expr} {g : En → R (List PyData)} {pos p : Pos} {x : Str} {k j n : Nat} {Fn : List PyData → R PyData} (C : CalN X.prog X.w X.K X.mg X.base c.ca k x n Fn) (tk : Takes X c.W) (hr : Room j X.A) (ha : PA X (e :: es) (tA X.K c g)) (hk : k ≤ j := by decide) (hl : (e :: es).length = n := by rfl)
    (hg : Gl X x := by rfl) (hdb : (x == ("__debug__" : Str)) = false := by decide)
    (he : starEach (e :: es) X.env = (false, eval e X.env) :: starEach es X.env := by rfl) (hpl : (backTo pos (starEach es X.env)).any (·.1) = false := by rfl) :
    PE X (.Call (.Name x p) (e :: es) [] pos) (tE X.K c (xCl n Fn g)) := by
  obtain ⟨f, fd, ps, h1, h2, h3, h4, h5⟩ := C.ex
  refine pe_imp (pe_callS h1 (hr.mono hk) hg h3 h4 h5 (fun σ => passAt tk σ) ha hdb he hpl) fun σ H Q ⟨F, ρ, r, q⟩ => ⟨F, ρ, r, (Po.bind q).mono fun ds F1 H1 _ x1 k vs rv => ?_⟩
  by_cases hz : ds.length = n
  · rw [if_pos hz] at k
    refine ⟨rv.len.trans hz, F1, fun _ => none, ds, x1.s, fun _ _ e => (nomatch e), rv, ?_⟩
    cases hf : Fn ds with
    | ok d => rw [hf] at k; exact fun F' H' v xe r' => k F' H' xe v r'.rp
    | exc m => rw [hf] at k; exact fun H' sm => k F1 H' ⟨Same.refl F1, sm, x1.s.trans sm, fun _ _ e => Or.inl e⟩
    | bad => rw [hf] at k; exact k
  · rw [if_neg hz] at k; exact k.elim
end DL
set_option Elab.async false
set_option linter.all false
set_option maxRecDepth 100000
set_option maxHeartbeats 1000000
/-! The law's own def; the end. -/
namespace DL
open PySem PySem.Spec L2
/-- the law answers True to every script -/
def LawTrue (F : List PyData → R PyData) : Prop := ∀ ns : List Int, ns.length ≤ 63 → F [.list (ns.map .int)] = .ok (.bool true)
def spLaw (K : Fg) : Sp := fun vs H Q E => ∃ (a : Addr) (ns : List Int), vs = [.ref a] ∧ ns.length ≤ 63 ∧ SqL K H a (ns.map V.int) ∧ ∀ H', Q (.bl true) H'
theorem law_sp {K : Fg} {ca : Str → Value} {F : List PyData → R PyData} (h : LawTrue F) : ∀ vs H Q E, spLaw K vs H Q E → spD K ca 1 F vs H Q E := fun vs H Q E ⟨a, ns, e, hl, hs, q⟩ => by
  subst e
  refine ⟨rfl, H, [.list (ns.map .int)], Same.refl H, .cons (.lst hs (RpA.ints ns)) .nil, ?_⟩
  rw [h ns hl]
  intro F' H' v x r
  cases r
  exact q H'
theorem cx_none {P : Program} {w : World} {H : Hp} {s s' : Shared} {e : Value} (h : L2.CX P w [] H s (fun _ _ _ => False) e s') : False := by
  obtain ⟨_, _, _, _, _, _, _, _, _, _, _, _, h⟩ := h
  exact h
theorem law_says {K : Fg} {H : Hp} {a : Addr} {ns : List Int} (hl : ns.length ≤ 63) (hS : SqL K H a (ns.map V.int)) : spLaw K [.ref a] H (fun v _ => v = .bl true) fun _ _ _ => False := ⟨a, ns, rfl, hl, hS, fun _ => rfl⟩
/-- the law by its body -/
structure LawFn (P : Program) (w : World) (K : Fg) (mg : Str → Option Value) (ca : Str → Value) (k : Nat) (Fn : List PyData → R PyData) : Prop where
  ex : ∀ fa : Addr, mg "law" = some (.ref fa) → ∃ fd : FuncData, (∀ (s : Shared) (u : Value), BindsTo s fd ⟨[u], []⟩ [("_law_script", u)]) ∧ ∀ base : Heap, FnOk P w K mg base (L2.CX P w) k fa fd ["_law_script"] (spD K ca 1 Fn)
theorem mk_law {P : Program} {w : World} {K : Fg} {mg : Str → Option Value} {st : Stmt} {N : List Str} {k : Nat} {ca : Str → Value} {Fn : List PyData → R PyData} {body : En → O} (D : DefK K mg "law" st) (S : FnScope N ["_law_script"] (defScope st))
    (hb : ∀ (kV doc pm : Value) (an : Option Addr) (cdv ct : Value) (u : Value), bindArgs (PySem.W.fnOf "law" "law" (defArgs st) (defBody st) (defScope st) .none kV doc pm an cdv ct) ⟨[u], []⟩ = pure [(("_law_script" : Str), u)])
    (hbody : ∀ (base : Heap) (f : Addr) (cdv : Value) (A : Around) (outer : List Env) (s : Shared) (H : Hp) (E : XK) (c : Cc), c.ca = ca → Takes (cxOf (L2.CX P w) P w K mg base N "law" (defScope st) f cdv A outer s H E) c.W → PassesOwn (model P w) (cxOf (L2.CX P w) P w K mg base N "law" (defScope st) f cdv A outer s H E).A (cxOf (L2.CX P w) P w K mg base N "law" (defScope st) f cdv A outer s H E).env (cxOf (L2.CX P w) P w K mg base N "law" (defScope st) f cdv A outer s H E).xe →
      Room k (cxOf (L2.CX P w) P w K mg base N "law" (defScope st) f cdv A outer s H E).A → PSs (cxOf (L2.CX P w) P w K mg base N "law" (defScope st) f cdv A outer s H E) (defBody st) (tZ K c body))
    (hF : ∀ ds, ds.length = 1 → Fn ds = fin (body (env0 N.length ds))) : LawFn P w K mg ca (k + 1) Fn := by
  obtain ⟨f, fd, Fu, hm⟩ := D.ex
  refine ⟨fun fa hfa => ?_⟩
  rw [hm] at hfa
  cases hfa
  refine ⟨fd, fun s u => ?_, fun base => def_ok Fu S rfl (hbody base f) hF⟩
  obtain ⟨oc, od, kV, doc, pm, an, cdv, ct, osl, rfl, lk, hcd⟩ := Fu.ex
  exact .of_eq (hb kV doc pm an cdv ct u)
/-- as the end wants it -/
theorem LawFn.end {P : Program} {w : World} {K : Fg} {mg : Str → Option Value} {ca : Str → Value} {k : Nat} {Fn : List PyData → R PyData} (L : LawFn P w K mg ca k Fn) (h : LawTrue Fn) {fa : Addr} (hfa : mg "law" = some (.ref fa)) :
    ∃ fd : FuncData, (∀ (s : Shared) (u : Value), BindsTo s fd ⟨[u], []⟩ [("_law_script", u)]) ∧ ∀ base : Heap, K.In base → base.Ns mainGlobals mg → FnOk P w K mg base (L2.CX P w) k fa fd ["_law_script"] (spLaw K) := by
  obtain ⟨fd, h1, h2⟩ := L.ex fa hfa
  exact ⟨fd, h1, fun base _ _ => (h2 base).imp (law_sp h)⟩
end DL
set_option Elab.async false
set_option linter.all false
set_option maxRecDepth 100000
set_option maxHeartbeats 1000000
/-! Lists of a new value change at the end of a law. -/
namespace DL
open PySem PySem.Spec L2
def bareS : Slot → Bool
  | .un => true
  | .sh _ => true
  | _ => false
theorem rl_bare {K : Fg} {c c' : Cc} {F H F' H' : Hp} {ρ : En} {σ : St} (r : Rl K c F H ρ σ) (hp : ρ.all bareS = true) (f : Same F F') (e : Ext c'.F0 c'.H0 F' H') : Rl K c' F' H' ρ σ := by
  have pl : ∀ (i : Nat) (s : Slot), ρ[i]? = some s → bareS s = true := fun i s h => List.all_eq_true.mp hp s (List.mem_of_getElem? h)
  refine ⟨r.len, e, fun i s h => ?_, fun i j s t p h1 _ o1 _ => ?_⟩
  · have q := r.at_ i s h
    have := pl i s h
    cases s with
    | un => trivial
    | sh d =>
      obtain ⟨v, a, b⟩ := q
      exact ⟨v, a, b.same f⟩
    | own _ => cases this
    | odc _ => cases this
    | kn => cases this
    | owN _ => cases this
    | nw _ => cases this
  · have := pl i s h1
    cases s <;> first | cases this; done | cases o1
/-- the name i holds something else -/
theorem rl_skip {K : Fg} {c : Cc} {F H : Hp} {ρ : En} {σ : St} (r : Rl K c F H ρ σ) (i : Nat) (x : Option V) : Rl K c F H (ρ.set i .un) (σ.set i x) := by
  refine ⟨by rw [List.length_set, List.length_set, r.len], r.e, fun j s h => ?_, fun j k s t p h1 h2 o1 o2 g1 g2 => ?_⟩
  · by_cases z : i = j
    · subst z
      by_cases hl : i < ρ.length
      · rw [List.getElem?_set_self hl] at h; cases h; trivial
      · rw [List.getElem?_eq_none (by rw [List.length_set]; omega)] at h; cases h
    · rw [List.getElem?_set_ne z] at h ⊢
      exact r.at_ j s h
  · have ne : ∀ (m : Nat) (y : Slot), (ρ.set i .un)[m]? = some y → isOwn y = true → i ≠ m ∧ ρ[m]? = some y := fun m y h o => by
      by_cases z : i = m
      · subst z
        by_cases hl : i < ρ.length
        · rw [List.getElem?_set_self hl] at h; cases h; cases o
        · rw [List.getElem?_eq_none (by rw [List.length_set]; omega)] at h; cases h
      · rw [List.getElem?_set_ne z] at h; exact ⟨z, h⟩
    obtain ⟨n1, a1⟩ := ne j s h1 o1
    obtain ⟨n2, a2⟩ := ne k t h2 o2
    rw [List.getElem?_set_ne n1] at g1
    rw [List.getElem?_set_ne n2] at g2
    exact r.one j k s t p a1 a2 o1 o2 g1 g2
theorem rd_upd {H : Hp} {a p : Addr} {u o : HO} {xs : List V} (h : Rd H a u) (hp : H p = some (.lst xs)) (hu : ∀ ys, u ≠ .lst ys) : Rd (upd H p o) a u := by
  rcases h with h | ⟨ob, h⟩
  · have z : a ≠ p := fun z => by subst z; rw [hp] at h; cases h; exact hu _ rfl
    exact Or.inl (by rw [upd_ne z]; exact h)
  · have z : a ≠ p := fun z => by subst z; rw [hp] at h; cases h
    exact Or.inr ⟨ob, by rw [upd_ne z]; exact h⟩
/-- a tuple stays where a list changes -/
theorem sqT_upd {K : Fg} {H : Hp} {a p : Addr} {vs xs : List V} {o : HO} (h : SqT K H a vs) (hp : H p = some (.lst xs)) : SqT K (upd H p o) a vs := by
  rcases h with h | h
  · exact Or.inl (rd_upd h hp fun ys z => nomatch z)
  · exact Or.inr h
/-- what was told of before the list stood stays where the list changes -/
theorem same_upd {F H0 H : Hp} {p : Addr} {o : HO} (s0 : Same F H0) (s : Same F H) (hp : H0 p = none) : Same F (upd H p o) := fun b u e => by
  rw [upd_ne (fun z => by subst z; have := s0 _ _ e; rw [hp] at this; cases this)]
  exact s b u e
theorem pt_any {X : Cx} {e : Expr} {t : Hp → Hp → Hp → V → TT} (h : ∀ F0 H0 Hn kn, PT X e (t F0 H0 Hn kn)) : PT X e (fun σ H Q => ∃ F0 H0 Hn kn, t F0 H0 Hn kn σ H Q) := ⟨fun pins s σ H Q I ⟨F0, H0, Hn, kn, q⟩ => (h F0 H0 Hn kn).run pins s σ H Q I q⟩
end DL
set_option Elab.async false
set_option linter.all false
set_option maxRecDepth 100000
/-! What the program's defs come to, as functions of data. Written by gen.py. -/
namespace G
open PySem PySem.Spec L2 DL
def m_divisor_of : En → O := (yCons (yWhile 1000000 (xT (xB gtD (xVar 1) (xC (.int 0)))) (yPar 0 1 (xCons (xVar 1) (xCons (xB modD (xVar 0) (xVar 1)) xNil)))) (yRet (xVar 0)))
def F_divisor_of : List PyData → R PyData := fun ds => fin (m_divisor_of (env0 2 ds))
def m_share : En → O := (yCons (yIf (xT (xB eqD (xVar 1) (xC (.int 0)))) (yRaise "NoShare") yNil) (yCons (yIf (xT (xB ltD (xVar 1) (xC (.int 0)))) (yCons (ySet 0 (xNeg (xVar 0))) (ySet 1 (xNeg (xVar 1)))) yNil) (yCons (ySet 2 (xCl 2 F_divisor_of (xCons (xF absD (xCons (xVar 0) xNil)) (xCons (xVar 1) xNil)))) (yRet (xTup (xCons (xB fdivD (xVar 0) (xVar 2)) (xCons (xB fdivD (xVar 1) (xVar 2)) xNil)))))))
def F_share : List PyData → R PyData := fun ds => fin (m_share (env0 3 ds))
def m_table_of : En → O := (yCons (ySet 1 (xC (.int 0))) (yCons (yOdc 2 xD0) (yCons (yFor (xItems (xVar 0)) (tgTup [3, 4]) (yCons (yIf (xT (xB ltD (xVar 4) (xC (.int 0)))) (yRaise "NoTable") yNil) (yCons (ySet 1 (xB addD (xVar 1) (xVar 4))) (yPutD 2 (xVar 3) (xB addD (xGet2 (xPk 2) (xVar 3) (xC (.int 0))) (xVar 4)))))) (yCons (yIf (xT (xB eqD (xVar 1) (xC (.int 0)))) (yRaise "NoTable") yNil) (yRet (xL (xComp [3] (xItems (xL (xFL sortedD (xCons (xPk 2) xNil)))) (tgName 3) (xT (xB gtD (xB dgetD (xPk 2) (xVar 3)) (xC (.int 0)))) (xTup (xCons (xVar 3) (xCons (xCl 2 F_share (xCons (xB dgetD (xPk 2) (xVar 3)) (xCons (xVar 1) xNil))) xNil))))))))))
def F_table_of : List PyData → R PyData := fun ds => fin (m_table_of (env0 5 ds))
def m_sides_of : En → O := (yCons (yIf (xT (xB eqD (xB ixD (xVar 0) (xC (.int 0))) (xC (.str "number")))) (yRet (xC (.int 1))) yNil) (yRet (xB ixD (xVar 0) (xNeg (xC (.int 1))))))
def F_sides_of : List PyData → R PyData := fun ds => fin (m_sides_of (env0 1 ds))
def m_most_faces : En → O := (yCons (yIf (xT (xB eqD (xB ixD (xVar 0) (xC (.int 0))) (xC (.str "number")))) (yRet (xC (.int 0))) yNil) (yCons (yIf (xT (xB eqD (xB ixD (xVar 0) (xC (.int 0))) (xC (.str "again")))) (yRet (xB addD (xC (.int 1)) (xF minD (xCons (xB ixD (xVar 0) (xC (.int 1))) (xCons (xC (.int 1)) xNil))))) yNil) (yCons (yIf (xT (xB eqD (xB ixD (xVar 0) (xC (.int 0))) (xC (.str "burst")))) (yRet (xB addD (xC (.int 1)) (xB ixD (xVar 0) (xC (.int 1))))) yNil) (yRet (xB ixD (xVar 0) (xNeg (xC (.int 2))))))))
def F_most_faces : List PyData → R PyData := fun ds => fin (m_most_faces (env0 1 ds))
def m_power_of : En → O := (yCons (ySet 2 (xC (.int 1))) (yCons (yFor (xRng1 (xVar 1)) (tgName 3) (ySet 2 (xB mulD (xVar 2) (xVar 0)))) (yRet (xVar 2))))
def F_power_of : List PyData → R PyData := fun ds => fin (m_power_of (env0 4 ds))
def m_count_of : En → O := (yCons (ySet 1 (xCl 1 F_sides_of (xCons (xVar 0) xNil))) (yCons (yIf (xT (xB eqD (xB ixD (xVar 0) (xC (.int 0))) (xC (.str "again")))) (yCons (ySet 2 (xF minD (xCons (xB ixD (xVar 0) (xC (.int 1))) (xCons (xVar 1) xNil)))) (yRet (xB addD (xB subD (xVar 1) (xVar 2)) (xB mulD (xVar 2) (xVar 1))))) yNil) (yCons (yIf (xT (xB eqD (xB ixD (xVar 0) (xC (.int 0))) (xC (.str "burst")))) (yRet (xB addD (xB mulD (xB subD (xVar 1) (xC (.int 1))) (xB ixD (xVar 0) (xC (.int 1)))) (xVar 1))) yNil) (yRet (xCl 2 F_power_of (xCons (xVar 1) (xCons (xCl 1 F_most_faces (xCons (xVar 0) xNil)) xNil)))))))
def F_count_of : List PyData → R PyData := fun ds => fin (m_count_of (env0 3 ds))
def m_ask_pool : En → O := (yCons (ySet 1 (xC (.int 1))) (yCons (ySet 2 (xC (.int 1))) (yCons (yFor (xItems (xVar 0)) (tgName 3) (yCons (ySet 1 (xB mulD (xVar 1) (xCl 1 F_count_of (xCons (xVar 3) xNil)))) (ySet 2 (xB mulD (xVar 2) (xCl 2 F_power_of (xCons (xCl 1 F_sides_of (xCons (xVar 3) xNil)) (xCons (xCl 1 F_most_faces (xCons (xVar 3) xNil)) xNil))))))) (yIf (xOrT (xT (xB gtD (xVar 1) (xC (.int 1296)))) (xT (xB gtD (xVar 2) (xC (.int 1000000))))) (yRaise "TooMany") yNil))))
def F_ask_pool : List PyData → R PyData := fun ds => fin (m_ask_pool (env0 4 ds))
def m_goes_on : En → O := (yCons (yIf (xT (xB eqD (xF lenD (xCons (xVar 1) xNil)) (xCl 1 F_most_faces (xCons (xVar 0) xNil)))) (yRet (xC (.bool false))) yNil) (yCons (yIf (xT (xB eqD (xF lenD (xCons (xVar 1) xNil)) (xC (.int 0)))) (yRet (xC (.bool true))) yNil) (yCons (yIf (xT (xB eqD (xB ixD (xVar 0) (xC (.int 0))) (xC (.str "again")))) (yRet (xB leD (xB ixD (xVar 1) (xNeg (xC (.int 1)))) (xB ixD (xVar 0) (xC (.int 1))))) yNil) (yCons (yIf (xT (xB eqD (xB ixD (xVar 0) (xC (.int 0))) (xC (.str "burst")))) (yRet (xB eqD (xB ixD (xVar 1) (xNeg (xC (.int 1)))) (xB ixD (xVar 0) (xC (.int 2))))) yNil) (yRet (xC (.bool true)))))))
def F_goes_on : List PyData → R PyData := fun ds => fin (m_goes_on (env0 2 ds))
def m_longer_throws (rec : List PyData → R PyData) : En → O := (yCons (yIf (xNotT (xT (xCl 2 F_goes_on (xCons (xVar 0) (xCons (xVar 1) xNil))))) (yRet (xL (xLs (xCons (xVar 1) xNil)))) yNil) (yCons (yOwn 2 (xLs xNil)) (yCons (yFor (xRng2 (xC (.int 1)) (xB addD (xCl 1 F_sides_of (xCons (xVar 0) xNil)) (xC (.int 1)))) (tgName 3) (yExt 2 (xCl 2 rec (xCons (xVar 0) (xCons (xB addD (xVar 1) (xL (xLs (xCons (xVar 3) xNil)))) xNil))))) (yFrz 2 (yRet (xVar 2))))))
def F_longer_throws : Nat → List PyData → R PyData
  | 0, _ => .bad
  | r + 1, ds => fin (m_longer_throws (F_longer_throws r) (env0 4 ds))
def m_worth_of : En → O := (yCons (yIf (xT (xB eqD (xB ixD (xVar 0) (xC (.int 0))) (xC (.str "number")))) (yRet (xB ixD (xVar 0) (xC (.int 1)))) yNil) (yCons (yIf (xT (xB eqD (xB ixD (xVar 0) (xC (.int 0))) (xC (.str "best")))) (yRet (xF sumD (xCons (xSl (xL (xFL sortedD (xCons (xVar 1) xNil))) (xO1 (xB subD (xF lenD (xCons (xVar 1) xNil)) (xB ixD (xVar 0) (xC (.int 1))))) xO0) xNil))) yNil) (yCons (yIf (xT (xB eqD (xB ixD (xVar 0) (xC (.int 0))) (xC (.str "worst")))) (yRet (xF sumD (xCons (xSl (xL (xFL sortedD (xCons (xVar 1) xNil))) xO0 (xO1 (xB ixD (xVar 0) (xC (.int 1))))) xNil))) yNil) (yCons (yIf (xT (xB eqD (xB ixD (xVar 0) (xC (.int 0))) (xC (.str "hits")))) (yRet (xF lenD (xCons (xL (xComp [2] (xItems (xVar 1)) (tgName 2) (xT (xB geD (xVar 2) (xB ixD (xVar 0) (xC (.int 1))))) (xVar 2))) xNil))) yNil) (yCons (yIf (xT (xB eqD (xB ixD (xVar 0) (xC (.int 0))) (xC (.str "again")))) (yRet (xB ixD (xVar 1) (xNeg (xC (.int 1))))) yNil) (yRet (xF sumD (xCons (xVar 1) xNil))))))))
def F_worth_of : List PyData → R PyData := fun ds => fin (m_worth_of (env0 3 ds))
def m_plain_rows : En → O := (yCons (yExpr (xCl 1 F_ask_pool (xCons (xVar 0) xNil))) (yCons (ySet 1 (xL (xLs (xCons (xTup (xCons (xL (xLs xNil)) (xCons (xC (.int 0)) (xCons (xC (.int 1)) xNil)))) xNil)))) (yCons (yFor (xItems (xVar 0)) (tgName 2) (yCons (ySet 3 (xL (xComp [8] (xItems (xCl 2 (F_longer_throws 8) (xCons (xVar 2) (xCons (xL (xLs xNil)) xNil)))) (tgName 8) xYes (xTup (xCons (xVar 8) (xCons (xCl 2 F_worth_of (xCons (xVar 2) (xCons (xVar 8) xNil))) xNil)))))) (yCons (yOwn 4 (xLs xNil)) (yCons (yFor (xItems (xVar 1)) (tgTup [5, 6, 7]) (yFor (xItems (xVar 3)) (tgTup [8, 9]) (yApp 4 (xTup (xCons (xB addD (xVar 5) (xVar 8)) (xCons (xB addD (xVar 6) (xVar 9)) (xCons (xB mulD (xVar 7) (xCl 2 F_power_of (xCons (xCl 1 F_sides_of (xCons (xVar 2) xNil)) (xCons (xF lenD (xCons (xVar 8) xNil)) xNil)))) xNil))))))) (yFrz 4 (ySet 1 (xVar 4))))))) (yRet (xVar 1)))))
def F_plain_rows : List PyData → R PyData := fun ds => fin (m_plain_rows (env0 10 ds))
def m_pool_table : En → O := (yCons (ySet 1 (xCl 1 F_plain_rows (xCons (xVar 0) xNil))) (yCons (ySet 2 (xC (.int 1))) (yCons (yFor (xItems (xVar 0)) (tgName 3) (ySet 2 (xB mulD (xVar 2) (xCl 2 F_power_of (xCons (xCl 1 F_sides_of (xCons (xVar 3) xNil)) (xCons (xCl 1 F_most_faces (xCons (xVar 3) xNil)) xNil)))))) (yRet (xCl 1 F_table_of (xCons (xL (xComp [4, 5, 6] (xItems (xVar 1)) (tgTup [4, 5, 6]) xYes (xTup (xCons (xVar 5) (xCons (xB fdivD (xVar 2) (xVar 6)) xNil))))) xNil))))))
def F_pool_table : List PyData → R PyData := fun ds => fin (m_pool_table (env0 7 ds))
def m_what_at : En → O := (yCons (yFor (xItems (xB ixD (xVar 0) (xC (.int 1)))) (tgTup [2, 3]) (yIf (xT (xB eqD (xVar 2) (xVar 1))) (yRet (xVar 3)) yNil)) (yRet (xC .none)))
def F_what_at : List PyData → R PyData := fun ds => fin (m_what_at (env0 4 ds))
def m_number_of : En → O := (yRet (xLM lindexD (xL (xComp [2, 3] (xItems (xB ixD (xVar 0) (xC (.int 0)))) (tgTup [2, 3]) xYes (xVar 2))) (xVar 1)))
def F_number_of : List PyData → R PyData := fun ds => fin (m_number_of (env0 4 ds))
def m_is_open : En → O := (yCons (yIf (xT (xB isND (xVar 1) (xC .none))) (yRet (xC (.bool true))) yNil) (yCons (ySet 3 (xB ixD (xVar 2) (xCl 2 F_number_of (xCons (xVar 0) (xCons (xB ixD (xVar 1) (xC (.int 0))) xNil))))) (yCons (yIf (xT (xB eqD (xB ixD (xVar 1) (xC (.int 1))) (xC (.str "from")))) (yRet (xB geD (xVar 3) (xB ixD (xVar 1) (xC (.int 2))))) yNil) (yRet (xB ltD (xVar 3) (xB ixD (xVar 1) (xC (.int 2))))))))
def F_is_open : List PyData → R PyData := fun ds => fin (m_is_open (env0 4 ds))
def m_arrived : En → O := (yCons (noRt (ySet 3 (xCl 2 F_what_at (xCons (xVar 0) (xCons (xVar 1) xNil))))) (yCons (noRt (yWhile 1000000 (xT (xB eqD (xB ixD (xVar 3) (xC (.int 0))) (xC (.str "ask")))) (yCons (ySet 1 (xB ixD (xVar 3) (xC (.int 4)))) (yCons (yIf (xT (xB geD (xB ixD (xVar 2) (xCl 2 F_number_of (xCons (xVar 0) (xCons (xB ixD (xVar 3) (xC (.int 1))) xNil)))) (xB ixD (xVar 3) (xC (.int 2))))) (ySet 1 (xB ixD (xVar 3) (xC (.int 3)))) yNil) (ySet 3 (xCl 2 F_what_at (xCons (xVar 0) (xCons (xVar 1) xNil)))))))) (yRet (xTup (xCons (xNo (xVar 1)) (xCons (xNL (xFL listD (xCons (xVar 2) xNil))) xNil))))))
def F_arrived : List PyData → R PyData := fun ds => fin (m_arrived (env0 4 ds))
def m_begun : En → O := (yRet (xCl 3 F_arrived (xCons (xVar 0) (xCons (xB ixD (xB ixD (xB ixD (xVar 0) (xC (.int 1))) (xC (.int 0))) (xC (.int 0))) (xCons (xL (xComp [1] (xItems (xB ixD (xVar 0) (xC (.int 0)))) (tgName 1) xYes (xC (.int 0)))) xNil)))))
def F_begun : List PyData → R PyData := fun ds => fin (m_begun (env0 2 ds))
def m_done_deeds : En → O := (yCons (yOwn 4 (xFL listD (xCons (xVar 1) xNil))) (yCons (yFor (xItems (xVar 2)) (tgName 5) (yCons (ySet 6 (xCl 2 F_number_of (xCons (xVar 0) (xCons (xB ixD (xVar 5) (xC (.int 1))) xNil)))) (yCons (ySet 7 (xVar 6)) (yCons (ySet 8 (xB ixD (xPk 4) (xVar 6))) (yCons (yIf (xT (xB eqD (xB ixD (xVar 5) (xC (.int 0))) (xC (.str "set")))) (ySet 8 (xB ixD (xVar 5) (xC (.int 2)))) (yIf (xT (xB eqD (xB ixD (xVar 5) (xC (.int 0))) (xC (.str "plus")))) (ySet 8 (xB addD (xVar 8) (xB ixD (xVar 5) (xC (.int 2))))) (yIf (xT (xB eqD (xB ixD (xVar 5) (xC (.int 0))) (xC (.str "face")))) (ySet 8 (xB addD (xVar 8) (xVar 3))) (yCons (ySet 7 (xCl 2 F_number_of (xCons (xVar 0) (xCons (xB ixD (xVar 5) (xC (.int 2))) xNil)))) (yCons (ySet 8 (xB addD (xB ixD (xPk 4) (xVar 7)) (xB ixD (xPk 4) (xVar 6)))) (yPutL 4 (xVar 6) (xC (.int 0)))))))) (yPutL 4 (xVar 7) (xF minD (xCons (xVar 8) (xCons (xB ixD (xB ixD (xB ixD (xVar 0) (xC (.int 0))) (xVar 7)) (xC (.int 1))) xNil))))))))) (yFrz 4 (yRet (xVar 4)))))
def F_done_deeds : List PyData → R PyData := fun ds => fin (m_done_deeds (env0 9 ds))
def m_throw_ways : En → List Std → OK := (yConsK (upK (yOwn 4 (xLs xNil))) (yConsK (upK (ySet 5 (xC (.int 1)))) (yConsK (yForK (xItems (xCl 1 F_pool_table (xCons (xB ixD (xVar 3) (xC (.int 1))) xNil))) (tgTup [6, 7]) (yConsK (upK (ySet 5 (xB fdivD (xB mulD (xVar 5) (xB ixD (xVar 7) (xC (.int 1)))) (xCl 2 F_divisor_of (xCons (xVar 5) (xCons (xB ixD (xVar 7) (xC (.int 1))) xNil)))))) (yForK (xItems (xB ixD (xVar 3) (xC (.int 3)))) (tgTup [8, 9, 10, 11]) (yIfK (xChT leD leD (xVar 8) (xVar 6) (xVar 9)) (yConsK (ySetK 12 (xClK 2 F_found_at (xRK 1 (xRN (xCl 3 F_arrived (xCons (xVar 0) (xCons (xVar 11) (xCons (xCl 4 F_done_deeds (xCons (xVar 0) (xCons (xB ixD (xVar 2) (xC (.int 1))) (xCons (xVar 10) (xCons (xVar 6) xNil))))) xNil)))) xR0)))) (upK (yApp 4 (xTup (xCons (xVar 7) (xCons (xVar 12) xNil)))))) yNilK)))) (yFrzK 4 (yRetK (xNL (xComp [7, 12] (xItems (xVar 4)) (tgTup [7, 12]) xYes (xTup (xCons (xB mulD (xB ixD (xVar 7) (xC (.int 0))) (xB fdivD (xVar 5) (xB ixD (xVar 7) (xC (.int 1))))) (xCons (xVar 12) xNil))))))))))
def F_throw_ways : List Slot → List Std → R (PyData × List Std) := fun ss sts => finK (m_throw_ways (envS 13 ss) sts)
def m_pick_ways : En → List Std → OK := (yConsK (upK (yOwn 4 (xLs xNil))) (yConsK (upK (yOwn 5 (xLs xNil))) (yConsK (yForK (xItems (xB ixD (xVar 3) (xC (.int 2)))) (tgTup [6, 7, 8, 9]) (yIfK (xT (xCl 3 F_is_open (xCons (xVar 0) (xCons (xVar 7) (xCons (xB ixD (xVar 2) (xC (.int 1))) xNil))))) (yConsK (upK (yApp 4 (xVar 6))) (yAppK 5 (xClK 2 F_found_at (xRK 1 (xRN (xCl 3 F_arrived (xCons (xVar 0) (xCons (xVar 9) (xCons (xCl 4 F_done_deeds (xCons (xVar 0) (xCons (xB ixD (xVar 2) (xC (.int 1))) (xCons (xVar 8) (xCons (xC (.int 0)) xNil))))) xNil)))) xR0))))) yNilK)) (yConsK (upK (yIf (xT (xB eqD (xF lenD (xCons (xPk 4) xNil)) (xC (.int 0)))) (yRaise "NoWay") yNil)) (yFrzK 4 (yFrzK 5 (yRetK (xTup (xCons (xNw 4) (xCons (xNw 5) xNil))))))))))
def F_pick_ways : List Slot → List Std → R (PyData × List Std) := fun ss sts => finK (m_pick_ways (envS 10 ss) sts)
def t_spread : En → List Std → OK := (yConsK (yState 5 3 2) (yConsK (upK (ySet 6 (xCl 2 F_what_at (xCons (xVar 0) (xCons (xB ixD (xVar 5) (xC (.int 0))) xNil))))) (yConsK (ySetNK 7 (xNL (xLs xNil))) (yConsK (yIfK (xT (xB eqD (xB ixD (xVar 6) (xC (.int 0))) (xC (.str "throw")))) (ySetK 8 (xKTup (xK1 (xNo (xC (.str "throw"))) (xK1 (xNo (xB ixD (xVar 6) (xC (.int 2)))) (xK0 (xClK 4 F_throw_ways (xRS (xVar 0) (xRK 2 (xRS (xVar 5) (xRS (xVar 6) xR0)))))))))) (yIfK (xT (xB eqD (xB ixD (xVar 6) (xC (.int 0))) (xC (.str "pick")))) (yConsK (yUnpK 7 9 (xClK 4 F_pick_ways (xRS (xVar 0) (xRK 2 (xRS (xVar 5) (xRS (xVar 6) xR0)))))) (ySetNK 8 (xTup (xCons (xNo (xC (.str "pick"))) (xCons (xNo (xB ixD (xVar 6) (xC (.int 1)))) (xCons (xNw 9) xNil)))))) (yIfK (xT (xB eqD (xB ixD (xVar 6) (xC (.int 0))) (xC (.str "score")))) (ySetNK 8 (xNo (xTup (xCons (xC (.str "end")) (xCons (xTup (xCons (xB ixD (xB ixD (xVar 5) (xC (.int 1))) (xCl 2 F_number_of (xCons (xVar 0) (xCons (xB ixD (xVar 6) (xC (.int 1))) xNil)))) (xCons (xC (.int 1)) xNil))) xNil))))) (ySetNK 8 (xNo (xTup (xCons (xC (.str "end")) (xCons (xB ixD (xVar 6) (xC (.int 1))) xNil)))))))) (yConsK (yAppN 3 (xNw 8)) (yAppN 4 (xNw 7)))))))
def m_spread : En → O := (yCons (ySetN 1 (xCl 1 F_begun (xCons (xVar 0) xNil))) (yStart 2 1 (yConsK (yOwNK 3 (xLs xNil)) (yConsK (yOwNK 4 (xLs xNil)) (yConsK (whileS 3 2 t_spread 1000) (yFin 3 4 2))))))
def F_spread : List PyData → R PyData := fun ds => fin (m_spread (env0 10 ds))
end G
set_option Elab.async false
set_option linter.all false
set_option maxRecDepth 100000
set_option maxHeartbeats 1000000
/-! What the program's defs come to on games. -/
namespace G
open PySem PySem.Spec L2 DL
@[simp] theorem eqB_int (i j : Int) : eqB (.int i) (.int j) = .ok (decide (i = j)) := rfl
@[simp] theorem eqB_str (a b : Str) : eqB (.str a) (.str b) = .ok (decide (a = b)) := rfl
@[simp] theorem ne_ask_end : ((Str.ofString "ask" : Str) = Str.ofString "end") = False := eq_false (by decide +kernel)
@[simp] theorem ne_ask_score : ((Str.ofString "ask" : Str) = Str.ofString "score") = False := eq_false (by decide +kernel)
@[simp] theorem ne_ask_pick : ((Str.ofString "ask" : Str) = Str.ofString "pick") = False := eq_false (by decide +kernel)
@[simp] theorem ne_ask_throw : ((Str.ofString "ask" : Str) = Str.ofString "throw") = False := eq_false (by decide +kernel)
@[simp] theorem ne_end_ask : ((Str.ofString "end" : Str) = Str.ofString "ask") = False := eq_false (by decide +kernel)
@[simp] theorem ne_end_score : ((Str.ofString "end" : Str) = Str.ofString "score") = False := eq_false (by decide +kernel)
@[simp] theorem ne_end_pick : ((Str.ofString "end" : Str) = Str.ofString "pick") = False := eq_false (by decide +kernel)
@[simp] theorem ne_end_throw : ((Str.ofString "end" : Str) = Str.ofString "throw") = False := eq_false (by decide +kernel)
@[simp] theorem ne_score_ask : ((Str.ofString "score" : Str) = Str.ofString "ask") = False := eq_false (by decide +kernel)
@[simp] theorem ne_score_end : ((Str.ofString "score" : Str) = Str.ofString "end") = False := eq_false (by decide +kernel)
@[simp] theorem ne_score_pick : ((Str.ofString "score" : Str) = Str.ofString "pick") = False := eq_false (by decide +kernel)
@[simp] theorem ne_score_throw : ((Str.ofString "score" : Str) = Str.ofString "throw") = False := eq_false (by decide +kernel)
@[simp] theorem ne_pick_ask : ((Str.ofString "pick" : Str) = Str.ofString "ask") = False := eq_false (by decide +kernel)
@[simp] theorem ne_pick_end : ((Str.ofString "pick" : Str) = Str.ofString "end") = False := eq_false (by decide +kernel)
@[simp] theorem ne_pick_score : ((Str.ofString "pick" : Str) = Str.ofString "score") = False := eq_false (by decide +kernel)
@[simp] theorem ne_pick_throw : ((Str.ofString "pick" : Str) = Str.ofString "throw") = False := eq_false (by decide +kernel)
@[simp] theorem ne_throw_ask : ((Str.ofString "throw" : Str) = Str.ofString "ask") = False := eq_false (by decide +kernel)
@[simp] theorem ne_throw_end : ((Str.ofString "throw" : Str) = Str.ofString "end") = False := eq_false (by decide +kernel)
@[simp] theorem ne_throw_score : ((Str.ofString "throw" : Str) = Str.ofString "score") = False := eq_false (by decide +kernel)
@[simp] theorem ne_throw_pick : ((Str.ofString "throw" : Str) = Str.ofString "pick") = False := eq_false (by decide +kernel)
@[simp] theorem ne_set_plus : ((Str.ofString "set" : Str) = Str.ofString "plus") = False := eq_false (by decide +kernel)
@[simp] theorem ne_set_face : ((Str.ofString "set" : Str) = Str.ofString "face") = False := eq_false (by decide +kernel)
@[simp] theorem ne_set_move : ((Str.ofString "set" : Str) = Str.ofString "move") = False := eq_false (by decide +kernel)
@[simp] theorem ne_plus_set : ((Str.ofString "plus" : Str) = Str.ofString "set") = False := eq_false (by decide +kernel)
@[simp] theorem ne_plus_face : ((Str.ofString "plus" : Str) = Str.ofString "face") = False := eq_false (by decide +kernel)
@[simp] theorem ne_plus_move : ((Str.ofString "plus" : Str) = Str.ofString "move") = False := eq_false (by decide +kernel)
@[simp] theorem ne_face_set : ((Str.ofString "face" : Str) = Str.ofString "set") = False := eq_false (by decide +kernel)
@[simp] theorem ne_face_plus : ((Str.ofString "face" : Str) = Str.ofString "plus") = False := eq_false (by decide +kernel)
@[simp] theorem ne_face_move : ((Str.ofString "face" : Str) = Str.ofString "move") = False := eq_false (by decide +kernel)
@[simp] theorem ne_move_set : ((Str.ofString "move" : Str) = Str.ofString "set") = False := eq_false (by decide +kernel)
@[simp] theorem ne_move_plus : ((Str.ofString "move" : Str) = Str.ofString "plus") = False := eq_false (by decide +kernel)
@[simp] theorem ne_move_face : ((Str.ofString "move" : Str) = Str.ofString "face") = False := eq_false (by decide +kernel)
@[simp] theorem ne_from_below : ((Str.ofString "from" : Str) = Str.ofString "below") = False := eq_false (by decide +kernel)
@[simp] theorem ne_below_from : ((Str.ofString "below" : Str) = Str.ofString "from") = False := eq_false (by decide +kernel)
@[simp] theorem ne_number_again : ((Str.ofString "number" : Str) = Str.ofString "again") = False := eq_false (by decide +kernel)
@[simp] theorem ne_number_burst : ((Str.ofString "number" : Str) = Str.ofString "burst") = False := eq_false (by decide +kernel)
@[simp] theorem ne_number_best : ((Str.ofString "number" : Str) = Str.ofString "best") = False := eq_false (by decide +kernel)
@[simp] theorem ne_number_worst : ((Str.ofString "number" : Str) = Str.ofString "worst") = False := eq_false (by decide +kernel)
@[simp] theorem ne_number_hits : ((Str.ofString "number" : Str) = Str.ofString "hits") = False := eq_false (by decide +kernel)
@[simp] theorem ne_number_dice : ((Str.ofString "number" : Str) = Str.ofString "dice") = False := eq_false (by decide +kernel)
@[simp] theorem ne_again_number : ((Str.ofString "again" : Str) = Str.ofString "number") = False := eq_false (by decide +kernel)
@[simp] theorem ne_again_burst : ((Str.ofString "again" : Str) = Str.ofString "burst") = False := eq_false (by decide +kernel)
@[simp] theorem ne_again_best : ((Str.ofString "again" : Str) = Str.ofString "best") = False := eq_false (by decide +kernel)
@[simp] theorem ne_again_worst : ((Str.ofString "again" : Str) = Str.ofString "worst") = False := eq_false (by decide +kernel)
@[simp] theorem ne_again_hits : ((Str.ofString "again" : Str) = Str.ofString "hits") = False := eq_false (by decide +kernel)
@[simp] theorem ne_again_dice : ((Str.ofString "again" : Str) = Str.ofString "dice") = False := eq_false (by decide +kernel)
@[simp] theorem ne_burst_number : ((Str.ofString "burst" : Str) = Str.ofString "number") = False := eq_false (by decide +kernel)
@[simp] theorem ne_burst_again : ((Str.ofString "burst" : Str) = Str.ofString "again") = False := eq_false (by decide +kernel)
@[simp] theorem ne_burst_best : ((Str.ofString "burst" : Str) = Str.ofString "best") = False := eq_false (by decide +kernel)
@[simp] theorem ne_burst_worst : ((Str.ofString "burst" : Str) = Str.ofString "worst") = False := eq_false (by decide +kernel)
@[simp] theorem ne_burst_hits : ((Str.ofString "burst" : Str) = Str.ofString "hits") = False := eq_false (by decide +kernel)
@[simp] theorem ne_burst_dice : ((Str.ofString "burst" : Str) = Str.ofString "dice") = False := eq_false (by decide +kernel)
@[simp] theorem ne_best_number : ((Str.ofString "best" : Str) = Str.ofString "number") = False := eq_false (by decide +kernel)
@[simp] theorem ne_best_again : ((Str.ofString "best" : Str) = Str.ofString "again") = False := eq_false (by decide +kernel)
@[simp] theorem ne_best_burst : ((Str.ofString "best" : Str) = Str.ofString "burst") = False := eq_false (by decide +kernel)
@[simp] theorem ne_best_worst : ((Str.ofString "best" : Str) = Str.ofString "worst") = False := eq_false (by decide +kernel)
@[simp] theorem ne_best_hits : ((Str.ofString "best" : Str) = Str.ofString "hits") = False := eq_false (by decide +kernel)
@[simp] theorem ne_best_dice : ((Str.ofString "best" : Str) = Str.ofString "dice") = False := eq_false (by decide +kernel)
@[simp] theorem ne_worst_number : ((Str.ofString "worst" : Str) = Str.ofString "number") = False := eq_false (by decide +kernel)
@[simp] theorem ne_worst_again : ((Str.ofString "worst" : Str) = Str.ofString "again") = False := eq_false (by decide +kernel)
@[simp] theorem ne_worst_burst : ((Str.ofString "worst" : Str) = Str.ofString "burst") = False := eq_false (by decide +kernel)
@[simp] theorem ne_worst_best : ((Str.ofString "worst" : Str) = Str.ofString "best") = False := eq_false (by decide +kernel)
@[simp] theorem ne_worst_hits : ((Str.ofString "worst" : Str) = Str.ofString "hits") = False := eq_false (by decide +kernel)
@[simp] theorem ne_worst_dice : ((Str.ofString "worst" : Str) = Str.ofString "dice") = False := eq_false (by decide +kernel)
@[simp] theorem ne_hits_number : ((Str.ofString "hits" : Str) = Str.ofString "number") = False := eq_false (by decide +kernel)
@[simp] theorem ne_hits_again : ((Str.ofString "hits" : Str) = Str.ofString "again") = False := eq_false (by decide +kernel)
@[simp] theorem ne_hits_burst : ((Str.ofString "hits" : Str) = Str.ofString "burst") = False := eq_false (by decide +kernel)
@[simp] theorem ne_hits_best : ((Str.ofString "hits" : Str) = Str.ofString "best") = False := eq_false (by decide +kernel)
@[simp] theorem ne_hits_worst : ((Str.ofString "hits" : Str) = Str.ofString "worst") = False := eq_false (by decide +kernel)
@[simp] theorem ne_hits_dice : ((Str.ofString "hits" : Str) = Str.ofString "dice") = False := eq_false (by decide +kernel)
@[simp] theorem ne_dice_number : ((Str.ofString "dice" : Str) = Str.ofString "number") = False := eq_false (by decide +kernel)
@[simp] theorem ne_dice_again : ((Str.ofString "dice" : Str) = Str.ofString "again") = False := eq_false (by decide +kernel)
@[simp] theorem ne_dice_burst : ((Str.ofString "dice" : Str) = Str.ofString "burst") = False := eq_false (by decide +kernel)
@[simp] theorem ne_dice_best : ((Str.ofString "dice" : Str) = Str.ofString "best") = False := eq_false (by decide +kernel)
@[simp] theorem ne_dice_worst : ((Str.ofString "dice" : Str) = Str.ofString "worst") = False := eq_false (by decide +kernel)
@[simp] theorem ne_dice_hits : ((Str.ofString "dice" : Str) = Str.ofString "hits") = False := eq_false (by decide +kernel)
theorem ixN_nat {n k : Nat} (h : k < n) : ixN n (k : Int) = some k := by
  unfold ixN
  have h0 : (0 : Int) ≤ (k : Int) := Int.natCast_nonneg k
  have h1 : (k : Int) < (n : Int) := by omega
  simp [h0, h1]
@[simp] theorem ixD_tup0 (a : PyData) (r : List PyData) : ixD (.tuple (a :: r)) (.int 0) = .ok a := by
  show (match atI (a :: r) ((0 : Nat) : Int) with | some d => R.ok d | none => R.bad) = _
  rw [DL.atI_nat (x := a) rfl]
@[simp] theorem ixD_tup1 (a b : PyData) (r : List PyData) : ixD (.tuple (a :: b :: r)) (.int 1) = .ok b := by
  show (match atI (a :: b :: r) ((1 : Nat) : Int) with | some d => R.ok d | none => R.bad) = _
  rw [DL.atI_nat (x := b) rfl]
@[simp] theorem ixD_tup2 (a b c : PyData) (r : List PyData) : ixD (.tuple (a :: b :: c :: r)) (.int 2) = .ok c := by
  show (match atI (a :: b :: c :: r) ((2 : Nat) : Int) with | some d => R.ok d | none => R.bad) = _
  rw [DL.atI_nat (x := c) rfl]
@[simp] theorem ixD_tup3 (a b c d : PyData) (r : List PyData) : ixD (.tuple (a :: b :: c :: d :: r)) (.int 3) = .ok d := by
  show (match atI (a :: b :: c :: d :: r) ((3 : Nat) : Int) with | some d => R.ok d | none => R.bad) = _
  rw [DL.atI_nat (x := d) rfl]
@[simp] theorem ixD_tup4 (a b c d e : PyData) (r : List PyData) : ixD (.tuple (a :: b :: c :: d :: e :: r)) (.int 4) = .ok e := by
  show (match atI (a :: b :: c :: d :: e :: r) ((4 : Nat) : Int) with | some d => R.ok d | none => R.bad) = _
  rw [DL.atI_nat (x := e) rfl]
theorem ixD_list {ds : List PyData} {k : Nat} {d : PyData} (h : ds[k]? = some d) : ixD (.list ds) (.int (k : Int)) = .ok d := by
  show (match atI ds (k : Int) with | some d => R.ok d | none => R.bad) = _
  rw [DL.atI_nat h]
@[simp] theorem ixD_list0 (a : PyData) (r : List PyData) : ixD (.list (a :: r)) (.int 0) = .ok a := ixD_list (k := 0) rfl
abbrev Cs := List (Str × Int)
abbrev Ps := List (Str × PyData)
def cD (c : Str × Int) : PyData := .tuple [.str c.1, .int c.2]
def pD (p : Str × PyData) : PyData := .tuple [.str p.1, p.2]
def gD (cs : Cs) (ps : Ps) : PyData := .tuple [.list (cs.map cD), .list (ps.map pD)]
def whatAt : Ps → Str → PyData
  | [], _ => .none
  | p :: r, n => if p.1 = n then p.2 else whatAt r n
theorem what_loop (g : PyData) (n : Str) (τ) (b) (hτ : τ = tgTup [2, 3]) (hb : b = yIf (xT (xB eqD (xVar 2) (xVar 1))) (yRet (xVar 3)) yNil) : ∀ (ps : Ps) (s2 s3 : Slot), fin (seqO (loopO τ b (ps.map pD) [.sh g, .sh (.str n), s2, s3]) (yRet (xC .none))) = .ok (whatAt ps n)
  | [], _, _ => rfl
  | p :: r, s2, s3 => by
    have ih := what_loop g n τ b hτ hb r
    subst hτ hb
    by_cases h : p.1 = n
    · simp [pD, whatAt, h]
    · simp only [List.map_cons, whatAt, h, if_false]
      rw [← ih (.sh (.str p.1)) (.sh p.2)]
      simp [pD, h]
theorem what_at_eq (cs : Cs) (ps : Ps) (n : Str) : F_what_at [gD cs ps, .str n] = .ok (whatAt ps n) := by
  rw [← what_loop (gD cs ps) n _ _ rfl rfl ps .un .un]
  simp [F_what_at, m_what_at, gD]
/-! ### what may be compared -/
def Sh (k : Nat) (d : PyData) : Prop := d.canLay0 = true ∧ d.depth ≤ k
def ShA (k : Nat) (ds : List PyData) : Prop := PyData.canLayAll0 ds = true ∧ PyData.depthAll ds ≤ k
theorem shA_of {k : Nat} : ∀ {ds : List PyData}, (∀ d ∈ ds, Sh k d) → ShA k ds
  | [], _ => ⟨rfl, Nat.zero_le _⟩
  | d :: ds, h => by
    have h1 := h d List.mem_cons_self
    have h2 := shA_of (fun x hx => h x (List.mem_cons_of_mem _ hx))
    exact ⟨by rw [PyData.canLayAll0, h1.1, h2.1]; rfl, by rw [PyData.depthAll]; exact Nat.max_le.mpr ⟨h1.2, h2.2⟩⟩
theorem Sh.list {k : Nat} {ds : List PyData} (h : ∀ d ∈ ds, Sh k d) : Sh (k + 1) (.list ds) := by
  have := shA_of h
  exact ⟨by rw [PyData.canLay0]; exact this.1, by rw [PyData.depth]; exact Nat.succ_le_succ this.2⟩
theorem Sh.tuple {k : Nat} {ds : List PyData} (h : ∀ d ∈ ds, Sh k d) : Sh (k + 1) (.tuple ds) := by
  have := shA_of h
  exact ⟨by rw [PyData.canLay0]; exact this.1, by rw [PyData.depth]; exact Nat.succ_le_succ this.2⟩
theorem Sh.mono {k j : Nat} {d : PyData} (h : Sh k d) (l : k ≤ j) : Sh j d := ⟨h.1, Nat.le_trans h.2 l⟩
theorem Sh.int (i : Int) (k : Nat) : Sh k (.int i) := ⟨rfl, Nat.zero_le _⟩
theorem Sh.bool (i : Bool) (k : Nat) : Sh k (.bool i) := ⟨rfl, Nat.zero_le _⟩
theorem Sh.none (k : Nat) : Sh k .none := ⟨rfl, Nat.zero_le _⟩
def nmOk (x : Str) : Prop := PyData.canLay0 (.str x) = true
theorem Sh.str {x : Str} (h : nmOk x) (k : Nat) : Sh k (.str x) := ⟨h, Nat.zero_le _⟩
theorem Sh.shaped {k : Nat} {d : PyData} (h : Sh k d) (l : k ≤ 64) : SeqAt.shaped d = true := by
  unfold SeqAt.shaped
  rw [h.1, decide_eq_true (Nat.le_trans h.2 l)]
  rfl
mutual
theorem eqv_refl : ∀ {d : PyData}, d.canLay0 = true → PyData.eqv d d = true
  | .none, _ => rfl
  | .bool b, _ => by simp [PyData.eqv]
  | .int i, _ => by simp [PyData.eqv]
  | .str x, _ => by simp [PyData.eqv]
  | .list ds, h => by
    rw [PyData.canLay0] at h
    rw [PyData.eqv]; exact eqvAll_refl h
  | .tuple ds, h => by
    rw [PyData.canLay0] at h
    rw [PyData.eqv]; exact eqvAll_refl h
  | .dict _, h => by rw [PyData.canLay0] at h; cases h
theorem eqvAll_refl : ∀ {ds : List PyData}, PyData.canLayAll0 ds = true → PyData.eqvAll ds ds = true
  | [], _ => rfl
  | d :: ds, h => by
    rw [PyData.canLayAll0, Bool.and_eq_true] at h
    rw [PyData.eqvAll, eqv_refl h.1, eqvAll_refl h.2]; rfl
end
theorem eqB_refl {d : PyData} {k : Nat} (h : Sh k d) (l : k ≤ 64) : eqB d d = .ok true := by
  unfold eqB
  split
  · simp
  · simp
  · rw [h.shaped l, eqv_refl h.1]; simp
theorem eqB_sh {d e : PyData} {k j : Nat} (hd : Sh k d) (he : Sh j e) (l : k ≤ 64) (m : j ≤ 64) : eqB d e = .ok (PyData.eqv d e) := by
  unfold eqB
  split
  · rfl
  · rename_i a b
    show _ = R.ok (a == b)
    congr 1
  · rw [hd.shaped l, he.shaped m]; simp
theorem idx_str (n : Str) : ∀ {ns : List Str}, n ∈ ns → idx (.str n) (ns.map .str) = some (ns.idxOf n)
  | [], h => by cases h
  | x :: r, h => by
    rw [List.map_cons, idx, List.idxOf_cons]
    have e : PyData.eqv (.str x) (.str n) = (x == n) := by rw [PyData.eqv]
    rw [e]
    by_cases hx : x = n
    · subst hx; simp
    · have : n ∈ r := by
        rcases List.mem_cons.mp h with z | z
        · exact absurd z.symm hx
        · exact z
      have hb : (x == n) = false := by simpa using hx
      rw [hb, idx_str n this]
      rfl
theorem comp_map {α : Type} (τ : PyData → En → R En) (te : En → R PyData) (ρ : En) (enc dec : α → PyData) (h : ∀ a, ∃ ρ1, τ (enc a) ρ = .ok ρ1 ∧ te ρ1 = .ok (dec a)) : ∀ xs : List α, compO τ xYes te (xs.map enc) ρ = .ok (xs.map dec)
  | [] => rfl
  | x :: r => by
    obtain ⟨ρ1, h1, h2⟩ := h x
    simp only [List.map_cons, compO, h1, xYes, R.bind, if_true, h2, comp_map τ te ρ enc dec h r]
theorem sizeLe {n : Nat} (h : n ≤ 1000) : n ≤ sizeLine := by rw [sizeLine_eq]; omega
/-- a fair list of counts -/
structure CsOk (cs : Cs) : Prop where
  few : cs.length ≤ 1000
  nm : ∀ c ∈ cs, nmOk c.1
abbrev nms (cs : Cs) : List Str := cs.map (·.1)
theorem number_of_eq {cs : Cs} {P : PyData} {n : Str} (hc : CsOk cs) (hn : n ∈ nms cs) : F_number_of [.tuple [.list (cs.map cD), P], .str n] = .ok (.int ((nms cs).idxOf n : Nat)) := by
  have hs : SeqAt.shaped (.list ((nms cs).map .str)) = true := (Sh.list (k := 0) fun d hd => by
    obtain ⟨x, h1, rfl⟩ := List.mem_map.mp hd
    obtain ⟨c, h2, rfl⟩ := List.mem_map.mp h1
    exact .str (hc.nm c h2) 0).shaped (by decide)
  have hs2 : SeqAt.shaped (.str n) = true := by
    obtain ⟨c, h2, rfl⟩ := List.mem_map.mp hn
    exact (Sh.str (hc.nm c h2) 0).shaped (by decide)
  have e : (cs.map fun c => PyData.str c.1) = (nms cs).map .str := by simp [nms]
  have hc2 := comp_map (tgTup [2, 3]) (xVar 2) [.sh (.tuple [.list (cs.map cD), P]), .sh (.str n), .un, .un] cD (fun c => .str c.1) (fun c => ⟨_, by simp [cD]; rfl, by simp⟩) cs
  have hl : lindexD (cs.map fun c => PyData.str c.1) (.str n) = .ok (.int ((nms cs).idxOf n : Nat)) := by
    unfold lindexD
    rw [e, hs, hs2, idx_str n hn]
    rfl
  simp only [F_number_of, m_number_of, yRet, xLM, xL, xComp]
  simp [hc.few, sizeLe hc.few, hc2, hl]
theorem getI {ns : List Int} {k : Nat} (h : k < ns.length) : ixD (.list (ns.map .int)) (.int (k : Int)) = .ok (.int (ns.getD k 0)) := by
  refine ixD_list ?_
  rw [List.getElem?_map, List.getElem?_eq_getElem h]
  simp [List.getD, List.getElem?_eq_getElem h]
theorem idx_lt {cs : Cs} {n : Str} (h : n ∈ nms cs) : (nms cs).idxOf n < cs.length := by
  have := List.idxOf_lt_length_of_mem h
  simpa [nms] using this
/-- the number of a count -/
def numAt (cs : Cs) (ns : List Int) (n : Str) : Int := ns.getD ((nms cs).idxOf n) 0
inductive Wh where
  | ask (c : Str) (n : Int) (a b : Str)
  | fin (w : PyData)
  | score (c : Str)
  | pick (who : PyData) (rows : PyData)
  | throw (pool pay rows : PyData)
def whD : Wh → PyData
  | .ask c n a b => .tuple [.str "ask", .str c, .int n, .str a, .str b]
  | .fin w => .tuple [.str "end", w]
  | .score c => .tuple [.str "score", .str c]
  | .pick p r => .tuple [.str "pick", p, r]
  | .throw p q r => .tuple [.str "throw", p, q, r]
@[simp] theorem whD_ask (c n a b) : whD (.ask c n a b) = .tuple [.str "ask", .str c, .int n, .str a, .str b] := rfl
@[simp] theorem whD_fin (w) : whD (.fin w) = .tuple [.str "end", w] := rfl
@[simp] theorem whD_score (c) : whD (.score c) = .tuple [.str "score", .str c] := rfl
@[simp] theorem whD_pick (p r) : whD (.pick p r) = .tuple [.str "pick", p, r] := rfl
@[simp] theorem whD_throw (p q r) : whD (.throw p q r) = .tuple [.str "throw", p, q, r] := rfl
abbrev Pw := List (Str × Wh)
def pw (ps : Pw) : Ps := ps.map fun p => (p.1, whD p.2)
def wAt (ps : Pw) (n : Str) : Option Wh := (ps.find? fun p => p.1 = n).map (·.2)
theorem whatAt_pw : ∀ (ps : Pw) (n : Str), whatAt (pw ps) n = (match wAt ps n with | some w => whD w | none => .none)
  | [], n => rfl
  | p :: r, n => by
    have ih := whatAt_pw r n
    by_cases h : p.1 = n
    · simp [pw, whatAt, wAt, h]
    · unfold pw wAt at ih
      simp [pw, whatAt, wAt, h, ih]
/-- the asks gone through, at most k of them -/
def walkTo (cs : Cs) (ps : Pw) (ns : List Int) : Nat → Str → Option Str
  | 0, _ => none
  | k + 1, n => match wAt ps n with
    | some (.ask c m a b) => walkTo cs ps ns k (if m ≤ numAt cs ns c then a else b)
    | some _ => some n
    | none => none
def isAsk : Wh → Bool
  | .ask _ _ _ _ => true
  | _ => false
theorem arr_loop {cs : Cs} {ps : Pw} {ns : List Int} (hc : CsOk cs) (hl : ns.length = cs.length) (ha : ∀ n c m a b, wAt ps n = some (.ask c m a b) → c ∈ nms cs) (t b) (ht : t = xT (xB eqD (xB ixD (xVar 3) (xC (.int 0))) (xC (.str "ask"))))
    (hb : b = yCons (ySet 1 (xB ixD (xVar 3) (xC (.int 4)))) (yCons (yIf (xT (xB geD (xB ixD (xVar 2) (xCl 2 F_number_of (xCons (xVar 0) (xCons (xB ixD (xVar 3) (xC (.int 1))) xNil)))) (xB ixD (xVar 3) (xC (.int 2))))) (ySet 1 (xB ixD (xVar 3) (xC (.int 3)))) yNil) (ySet 3 (xCl 2 F_what_at (xCons (xVar 0) (xCons (xVar 1) xNil)))))) :
    ∀ (k : Nat) (n m : Str) (f : Nat) (w : Wh), walkTo cs ps ns k n = some m → k ≤ f → wAt ps n = some w →
      ∃ w', wAt ps m = some w' ∧ isAsk w' = false ∧ whileO t b f [.sh (gD cs (pw ps)), .sh (.str n), .sh (.list (ns.map .int)), .sh (whD w)] = .nx [.sh (gD cs (pw ps)), .sh (.str m), .sh (.list (ns.map .int)), .sh (whD w')]
  | 0, _, _, _, _, h, _, _ => by cases h
  | k + 1, n, m, f, w, h, hf, hw => by
    obtain ⟨f, rfl⟩ : ∃ g, f = g + 1 := ⟨f - 1, by omega⟩
    have ih := arr_loop hc hl ha t b ht hb k
    unfold walkTo at h
    rw [hw] at h
    cases w with
    | ask c q x y =>
      dsimp only at h
      have hcn := ha n c q x y hw
      have hg : wAt ps (if q ≤ numAt cs ns c then x else y) ≠ none := by
        intro z
        cases k with
        | zero => cases h
        | succ k => unfold walkTo at h; rw [z] at h; cases h
      obtain ⟨w2, hw2⟩ := Option.ne_none_iff_exists'.mp hg
      obtain ⟨w', h1, h2, h3⟩ := ih _ m f w2 h (by omega) hw2
      refine ⟨w', h1, h2, ?_⟩
      rw [← h3]
      have e1 : F_number_of [gD cs (pw ps), .str c] = _ := number_of_eq (P := .list ((pw ps).map pD)) hc hcn
      have e2 := getI (ns := ns) (k := (nms cs).idxOf c) (by rw [hl]; exact idx_lt hcn)
      have e3 := what_at_eq cs (pw ps) (if q ≤ numAt cs ns c then x else y)
      rw [whatAt_pw, hw2] at e3
      dsimp only at e3
      have e4 : numAt cs ns c = ns.getD ((nms cs).idxOf c) 0 := rfl
      have r1 : xT (xB geD (xB ixD (xVar 2) (xCl 2 F_number_of (xCons (xVar 0) (xCons (xB ixD (xVar 3) (xC (.int 1))) xNil)))) (xB ixD (xVar 3) (xC (.int 2)))) [.sh (gD cs (pw ps)), .sh (.str y), .sh (.list (ns.map .int)), .sh (whD (.ask c q x y))] = .ok (decide (q ≤ numAt cs ns c)) := by
        simp [e1, e2, e4]
      have rt : t [.sh (gD cs (pw ps)), .sh (.str n), .sh (.list (ns.map .int)), .sh (whD (.ask c q x y))] = .ok true := by
        subst ht
        simp
      have rb : b [.sh (gD cs (pw ps)), .sh (.str n), .sh (.list (ns.map .int)), .sh (whD (.ask c q x y))] = .nx [.sh (gD cs (pw ps)), .sh (.str (if q ≤ numAt cs ns c then x else y)), .sh (.list (ns.map .int)), .sh (whD w2)] := by
        subst hb
        by_cases hq : q ≤ numAt cs ns c
        · rw [if_pos hq] at e3 ⊢
          simp only [hq, decide_true] at r1
          simp at r1 ⊢
          simp [r1, e3]
        · rw [if_neg hq] at e3 ⊢
          simp only [hq, decide_false] at r1
          simp at r1 ⊢
          simp [r1, e3]
      show bO (t _) _ (fun z => if z = true then seqO (b _) (whileO t b f) else _) = _
      rw [rt, rb]
      rfl
    | fin v =>
      cases h
      refine ⟨_, hw, rfl, ?_⟩
      subst ht hb
      conv => lhs; unfold whileO
      simp
    | score c =>
      cases h
      refine ⟨_, hw, rfl, ?_⟩
      subst ht hb
      conv => lhs; unfold whileO
      simp
    | pick p r =>
      cases h
      refine ⟨_, hw, rfl, ?_⟩
      subst ht hb
      conv => lhs; unfold whileO
      simp
    | throw p q r =>
      cases h
      refine ⟨_, hw, rfl, ?_⟩
      subst ht hb
      conv => lhs; unfold whileO
      simp
theorem walkTo_at {cs : Cs} {ps : Pw} {ns : List Int} : ∀ {k : Nat} {n m : Str}, walkTo cs ps ns k n = some m → ∃ w, wAt ps n = some w
  | 0, _, _, h => by cases h
  | k + 1, n, m, h => by
    unfold walkTo at h
    cases hw : wAt ps n with
    | none => rw [hw] at h; cases h
    | some w => exact ⟨w, rfl⟩
@[simp] theorem zeros_nolist (ns : List Int) : nolists (ns.map .int) = true := by
  induction ns with
  | nil => rfl
  | cons n r ih => rw [List.map_cons, nolists, ih]; rfl
@[simp] theorem nolist_str (x : Str) : nolist (.str x) = true := rfl
@[simp] theorem nolist_int (x : Int) : nolist (.int x) = true := rfl
@[simp] theorem nolist_tuple (ds : List PyData) : nolist (.tuple ds) = nolists ds := rfl
@[simp] theorem nolists_nil : nolists [] = true := rfl
@[simp] theorem nolists_cons (d : PyData) (ds : List PyData) : nolists (d :: ds) = (nolist d && nolists ds) := rfl
structure GOk (cs : Cs) (ps : Pw) : Prop where
  c : CsOk cs
  ask : ∀ n c m a b, wAt ps n = some (.ask c m a b) → c ∈ nms cs
theorem yCons_nx {g h : En → O} {ρ ρ' : En} (e : g ρ = .nx ρ') : yCons g h ρ = h ρ' := by unfold yCons; rw [e]; rfl
theorem noRt_nx {g : En → O} {ρ ρ' : En} (e : g ρ = .nx ρ') : noRt g ρ = .nx ρ' := by unfold noRt; rw [e]
theorem arrived_eq {cs : Cs} {ps : Pw} {ns : List Int} (hg : GOk cs ps) (hl : ns.length = cs.length) {k : Nat} {n m : Str} (h : walkTo cs ps ns k n = some m) (hk : k ≤ 1000000) : F_arrived [gD cs (pw ps), .str n, .list (ns.map .int)] = .ok (stD (m, ns)) := by
  obtain ⟨w, hw⟩ := walkTo_at h
  obtain ⟨w', h1, h2, h3⟩ := arr_loop hg.c hl hg.ask _ _ rfl rfl k n m 1000000 w h hk hw
  have e := what_at_eq cs (pw ps) n
  rw [whatAt_pw, hw] at e
  have s1 : (ySet 3 (xCl 2 F_what_at (xCons (xVar 0) (xCons (xVar 1) xNil)))) (env0 4 [gD cs (pw ps), .str n, .list (ns.map .int)]) = .nx [.sh (gD cs (pw ps)), .sh (.str n), .sh (.list (ns.map .int)), .sh (whD w)] := by
    simp [e]
  refine (congrArg fin ((yCons_nx (noRt_nx s1)).trans (yCons_nx (noRt_nx h3)))).trans ?_
  simp [stD, sizeLine_eq]
inductive Deed where
  | set (c : Str) (n : Int)
  | plus (c : Str) (n : Int)
  | face (c : Str)
  | move (c d : Str)
def deedD : Deed → PyData
  | .set c n => .tuple [.str "set", .str c, .int n]
  | .plus c n => .tuple [.str "plus", .str c, .int n]
  | .face c => .tuple [.str "face", .str c]
  | .move c d => .tuple [.str "move", .str c, .str d]
@[simp] theorem deedD_set (c n) : deedD (.set c n) = .tuple [.str "set", .str c, .int n] := rfl
@[simp] theorem deedD_plus (c n) : deedD (.plus c n) = .tuple [.str "plus", .str c, .int n] := rfl
@[simp] theorem deedD_face (c) : deedD (.face c) = .tuple [.str "face", .str c] := rfl
@[simp] theorem deedD_move (c d) : deedD (.move c d) = .tuple [.str "move", .str c, .str d] := rfl
def least (i j : Int) : Int := if j < i then j else i
def mostOf (cs : Cs) (n : Str) : Int := (cs.getD ((nms cs).idxOf n) ("", 0)).2
def putAt (cs : Cs) (ns : List Int) (n : Str) (x : Int) : List Int := ns.set ((nms cs).idxOf n) (least x (mostOf cs n))
def doneOne (cs : Cs) (t : Int) (ns : List Int) : Deed → List Int
  | .set c n => putAt cs ns c n
  | .plus c n => putAt cs ns c (numAt cs ns c + n)
  | .face c => putAt cs ns c (numAt cs ns c + t)
  | .move c d => putAt cs (ns.set ((nms cs).idxOf c) 0) d (numAt cs ns d + numAt cs ns c)
def deedOk (cs : Cs) : Deed → Prop
  | .set c _ => c ∈ nms cs
  | .plus c _ => c ∈ nms cs
  | .face c => c ∈ nms cs
  | .move c d => c ∈ nms cs ∧ d ∈ nms cs
theorem done_len (cs : Cs) (t : Int) (ns : List Int) (d : Deed) : (doneOne cs t ns d).length = ns.length := by
  cases d <;> simp [doneOne, putAt]
theorem getC {cs : Cs} {n : Str} (h : n ∈ nms cs) : ixD (.list (cs.map cD)) (.int ((nms cs).idxOf n : Nat)) = .ok (.tuple [.str (cs.getD ((nms cs).idxOf n) ("", 0)).1, .int (mostOf cs n)]) := by
  refine ixD_list ?_
  rw [List.getElem?_map, List.getElem?_eq_getElem (idx_lt h)]
  simp [mostOf, cD, List.getD, List.getElem?_eq_getElem (idx_lt h)]
def bDeeds : En → O := (yCons (ySet 6 (xCl 2 F_number_of (xCons (xVar 0) (xCons (xB ixD (xVar 5) (xC (.int 1))) xNil)))) (yCons (ySet 7 (xVar 6)) (yCons (ySet 8 (xB ixD (xPk 4) (xVar 6))) (yCons (yIf (xT (xB eqD (xB ixD (xVar 5) (xC (.int 0))) (xC (.str "set")))) (ySet 8 (xB ixD (xVar 5) (xC (.int 2)))) (yIf (xT (xB eqD (xB ixD (xVar 5) (xC (.int 0))) (xC (.str "plus")))) (ySet 8 (xB addD (xVar 8) (xB ixD (xVar 5) (xC (.int 2))))) (yIf (xT (xB eqD (xB ixD (xVar 5) (xC (.int 0))) (xC (.str "face")))) (ySet 8 (xB addD (xVar 8) (xVar 3))) (yCons (ySet 7 (xCl 2 F_number_of (xCons (xVar 0) (xCons (xB ixD (xVar 5) (xC (.int 2))) xNil)))) (yCons (ySet 8 (xB addD (xB ixD (xPk 4) (xVar 7)) (xB ixD (xPk 4) (xVar 6)))) (yPutL 4 (xVar 6) (xC (.int 0)))))))) (yPutL 4 (xVar 7) (xF minD (xCons (xVar 8) (xCons (xB ixD (xB ixD (xB ixD (xVar 0) (xC (.int 0))) (xVar 7)) (xC (.int 1))) xNil))))))))
theorem deed_step {cs : Cs} {P : PyData} (hc : CsOk cs) {t : Int} {ns : List Int} (hl : ns.length = cs.length) {d : Deed} (hd : deedOk cs d) (a b s6 s7 s8 : Slot) : ∃ x6 x7 x8 : Slot,
    bDeeds [.sh (.tuple [.list (cs.map cD), P]), a, b, .sh (.int t), .own (ns.map .int), .sh (deedD d), s6, s7, s8] = .nx [.sh (.tuple [.list (cs.map cD), P]), a, b, .sh (.int t), .own ((doneOne cs t ns d).map .int), .sh (deedD d), x6, x7, x8] := by
  cases d with
  | set c n =>
    have e1 := number_of_eq (P := P) hc hd
    have k1 : (nms cs).idxOf c < ns.length := by rw [hl]; exact idx_lt hd
    have e2 := getI k1
    have e3 := getC hd
    refine ⟨.sh (.int ((nms cs).idxOf c : Nat)), .sh (.int ((nms cs).idxOf c : Nat)), .sh (.int n), ?_⟩
    simp [bDeeds, e1, e2, e3, ixN_nat k1, doneOne, putAt, least, List.map_set]
  | plus c n =>
    have e1 := number_of_eq (P := P) hc hd
    have k1 : (nms cs).idxOf c < ns.length := by rw [hl]; exact idx_lt hd
    have e2 := getI k1
    have e3 := getC hd
    refine ⟨.sh (.int ((nms cs).idxOf c : Nat)), .sh (.int ((nms cs).idxOf c : Nat)), .sh (.int (numAt cs ns c + n)), ?_⟩
    simp [bDeeds, e1, e2, e3, ixN_nat k1, doneOne, putAt, least, List.map_set, numAt]
  | face c =>
    have e1 := number_of_eq (P := P) hc hd
    have k1 : (nms cs).idxOf c < ns.length := by rw [hl]; exact idx_lt hd
    have e2 := getI k1
    have e3 := getC hd
    refine ⟨.sh (.int ((nms cs).idxOf c : Nat)), .sh (.int ((nms cs).idxOf c : Nat)), .sh (.int (numAt cs ns c + t)), ?_⟩
    simp [bDeeds, e1, e2, e3, ixN_nat k1, doneOne, putAt, least, List.map_set, numAt]
  | move c d =>
    have e1 := number_of_eq (P := P) hc hd.1
    have e1' := number_of_eq (P := P) hc hd.2
    have k1 : (nms cs).idxOf c < ns.length := by rw [hl]; exact idx_lt hd.1
    have k2 : (nms cs).idxOf d < ns.length := by rw [hl]; exact idx_lt hd.2
    have e2 := getI k1
    have e2' := getI k2
    have e3 := getC hd.2
    refine ⟨.sh (.int ((nms cs).idxOf c : Nat)), .sh (.int ((nms cs).idxOf d : Nat)), .sh (.int (numAt cs ns d + numAt cs ns c)), ?_⟩
    simp [bDeeds, e1, e1', e2, e2', e3, ixN_nat k1, ixN_nat k2, doneOne, putAt, least, List.map_set, numAt]
def doneAll (cs : Cs) (t : Int) (ns : List Int) (ds : List Deed) : List Int := ds.foldl (doneOne cs t) ns
theorem doneAll_len (cs : Cs) (t : Int) : ∀ (ds : List Deed) (ns : List Int), (doneAll cs t ns ds).length = ns.length
  | [], _ => rfl
  | d :: ds, ns => by
    show (doneAll cs t (doneOne cs t ns d) ds).length = _
    rw [doneAll_len cs t ds, done_len]
theorem deeds_loop {cs : Cs} {P : PyData} (hc : CsOk cs) {t : Int} (a b : Slot) : ∀ (ds : List Deed) (ns : List Int) (s5 s6 s7 s8 : Slot), ns.length = cs.length → (∀ d ∈ ds, deedOk cs d) → ∃ x5 x6 x7 x8 : Slot,
    loopO (tgName 5) bDeeds (ds.map deedD) [.sh (.tuple [.list (cs.map cD), P]), a, b, .sh (.int t), .own (ns.map .int), s5, s6, s7, s8] = .nx [.sh (.tuple [.list (cs.map cD), P]), a, b, .sh (.int t), .own ((doneAll cs t ns ds).map .int), x5, x6, x7, x8]
  | [], ns, s5, s6, s7, s8, _, _ => ⟨s5, s6, s7, s8, rfl⟩
  | d :: ds, ns, s5, s6, s7, s8, hl, hd => by
    obtain ⟨x6, x7, x8, e⟩ := deed_step (P := P) hc (t := t) hl (hd d List.mem_cons_self) a b s6 s7 s8
    obtain ⟨y5, y6, y7, y8, e2⟩ := deeds_loop hc a b ds (doneOne cs t ns d) (.sh (deedD d)) x6 x7 x8 (by rw [done_len, hl]) (fun x hx => hd x (List.mem_cons_of_mem _ hx))
    refine ⟨y5, y6, y7, y8, ?_⟩
    rw [List.map_cons, loopO]
    show seqO (bDeeds [.sh (.tuple [.list (cs.map cD), P]), a, b, .sh (.int t), .own (ns.map .int), .sh (deedD d), s6, s7, s8]) _ = _
    rw [e]
    exact e2
theorem done_deeds_eq {cs : Cs} {P : PyData} (hc : CsOk cs) {t : Int} {ns : List Int} {ds : List Deed} (hl : ns.length = cs.length) (hd : ∀ d ∈ ds, deedOk cs d) : F_done_deeds [.tuple [.list (cs.map cD), P], .list (ns.map .int), .list (ds.map deedD), .int t] = .ok (.list ((doneAll cs t ns ds).map .int)) := by
  obtain ⟨x5, x6, x7, x8, e⟩ := deeds_loop (P := P) hc (t := t) (.sh (.list (ns.map .int))) (.sh (.list (ds.map deedD))) ds ns .un .un .un .un hl hd
  have s1 : (yOwn 4 (xFL listD (xCons (xVar 1) xNil))) (env0 9 [.tuple [.list (cs.map cD), P], .list (ns.map .int), .list (ds.map deedD), .int t]) = .nx [.sh (.tuple [.list (cs.map cD), P]), .sh (.list (ns.map .int)), .sh (.list (ds.map deedD)), .sh (.int t), .own (ns.map .int), .un, .un, .un, .un] := by
    simp
  have s2 : (yFor (xItems (xVar 2)) (tgName 5) bDeeds) [.sh (.tuple [.list (cs.map cD), P]), .sh (.list (ns.map .int)), .sh (.list (ds.map deedD)), .sh (.int t), .own (ns.map .int), .un, .un, .un, .un] = .nx [.sh (.tuple [.list (cs.map cD), P]), .sh (.list (ns.map .int)), .sh (.list (ds.map deedD)), .sh (.int t), .own ((doneAll cs t ns ds).map .int), x5, x6, x7, x8] := by
    rw [← e]
    simp only [yFor, xItems, xVar, bO, R.bind]
    simp
  refine (congrArg fin ((yCons_nx s1).trans (yCons_nx s2))).trans ?_
  simp
end G
set_option Elab.async false
set_option linter.all false
set_option maxRecDepth 100000
set_option maxHeartbeats 1000000
/-! What spread comes to, turn by turn. -/
namespace G
open PySem PySem.Spec L2 DL
theorem found_eq (st : Std) (sts : List Std) : F_found_at [.kn, .nw (stD st)] sts = finK (lookUp st sts) := by
  unfold F_found_at m_found_at envS
  simp [stOf_stD]
section
variable {cs : Cs} {ps : Pw} {a s5 s6 s7 s8 s9 : Slot} {bs ws : List PyData} {sts : List Std} {n : Str} {ns : List Int}
theorem turn_fin {v : PyData} (h : sts[bs.length]? = some (n, ns)) (hw : wAt ps n = some (.fin v)) (hv : nolist v = true) (hb : bs.length < 16777216) (hw2 : ws.length < 16777216) :
    t_spread [.sh (gD cs (pw ps)), a, .kn, .owN bs, .owN ws, s5, s6, s7, s8, s9] sts = .nx [.sh (gD cs (pw ps)), a, .kn, .owN (bs ++ [.tuple [.str "end", v]]), .owN (ws ++ [.list []]), .nw (stD (n, ns)), .sh (whD (.fin v)), .nw (.list []), .nw (.tuple [.str "end", v]), s9] sts := by
  have e := what_at_eq cs (pw ps) n
  rw [whatAt_pw, hw] at e
  unfold t_spread
  simp [h, stD, e, hv, hb, hw2, sizeLine_eq]
theorem turn_score {c : Str} (hc : CsOk cs) (hl : ns.length = cs.length) (hcn : c ∈ nms cs) (h : sts[bs.length]? = some (n, ns)) (hw : wAt ps n = some (.score c)) (hb : bs.length < 16777216) (hw2 : ws.length < 16777216) :
    t_spread [.sh (gD cs (pw ps)), a, .kn, .owN bs, .owN ws, s5, s6, s7, s8, s9] sts = .nx [.sh (gD cs (pw ps)), a, .kn, .owN (bs ++ [.tuple [.str "end", .tuple [.int (numAt cs ns c), .int 1]]]), .owN (ws ++ [.list []]), .nw (stD (n, ns)), .sh (whD (.score c)), .nw (.list []), .nw (.tuple [.str "end", .tuple [.int (numAt cs ns c), .int 1]]), s9] sts := by
  have e := what_at_eq cs (pw ps) n
  rw [whatAt_pw, hw] at e
  have e1 : F_number_of [gD cs (pw ps), .str c] = _ := number_of_eq hc hcn
  have e2 := getI (ns := ns) (k := (nms cs).idxOf c) (by rw [hl]; exact idx_lt hcn)
  unfold t_spread
  simp [h, stD, e, e1, e2, numAt, hb, hw2, sizeLine_eq]
end
/-- a way of a pick -/
structure Row where
  word : Str
  cond : Option (Str × Bool × Int)
  deeds : List Deed
  goal : Str
def condD : Option (Str × Bool × Int) → PyData
  | none => .none
  | some (c, b, n) => .tuple [.str c, .str (if b = true then "from" else "below"), .int n]
def rowD (r : Row) : PyData := .tuple [.str r.word, condD r.cond, .list (r.deeds.map deedD), .str r.goal]
def openM (cs : Cs) (ns : List Int) : Option (Str × Bool × Int) → Bool
  | none => true
  | some (c, b, n) => if b = true then decide (n ≤ numAt cs ns c) else decide (numAt cs ns c < n)
theorem is_open_eq {cs : Cs} {P : PyData} {ns : List Int} (hc : CsOk cs) (hl : ns.length = cs.length) {o : Option (Str × Bool × Int)} (ho : ∀ c b n, o = some (c, b, n) → c ∈ nms cs) : F_is_open [.tuple [.list (cs.map cD), P], condD o, .list (ns.map .int)] = .ok (.bool (openM cs ns o)) := by
  cases o with
  | none => simp [F_is_open, m_is_open, condD, openM]
  | some x =>
    obtain ⟨c, b, n⟩ := x
    have hcn := ho c b n rfl
    have e1 := number_of_eq (P := P) hc hcn
    have e2 := getI (ns := ns) (k := (nms cs).idxOf c) (by rw [hl]; exact idx_lt hcn)
    cases b <;> simp [F_is_open, m_is_open, condD, openM, e1, e2, numAt]
/-- where one comes to -/
def toM (cs : Cs) (ps : Pw) (ns : List Int) (n : Str) : Str := (walkTo cs ps ns 1000 n).getD ""
structure GOk2 (cs : Cs) (ps : Pw) : Prop extends GOk cs ps where
  go : ∀ n, n ∈ ps.map (·.1) → ∀ ns : List Int, ns.length = cs.length → (walkTo cs ps ns 1000 n).isSome = true
theorem arr_to {cs : Cs} {ps : Pw} {ns : List Int} (hg : GOk2 cs ps) (hl : ns.length = cs.length) {n : Str} (hn : n ∈ ps.map (·.1)) : F_arrived [gD cs (pw ps), .str n, .list (ns.map .int)] = .ok (stD (toM cs ps ns n, ns)) := by
  have h := hg.go n hn ns hl
  obtain ⟨m, hm⟩ := Option.isSome_iff_exists.mp h
  rw [arrived_eq hg.toGOk hl hm (by decide)]
  unfold toM
  rw [hm]; rfl
def lookM (st : Std) (sts : List Std) : Option (Nat × List Std) :=
  if st ∈ sts then some (sts.idxOf st, sts) else if sts.length < 120 then some (sts.length, sts ++ [st]) else none
theorem found_M {st : Std} {sts : List Std} (h : sts.length ≤ 120) : F_found_at [.kn, .nw (stD st)] sts = (match lookM st sts with | some (i, s) => .ok (.int (i : Nat), s) | none => .exc "TooMany") := by
  rw [found_eq]
  unfold lookUp lookM
  by_cases h1 : st ∈ sts
  · simp [h1]
  · by_cases h2 : sts.length < 120
    · simp [h1, h2]
    · have : sts.length = 120 := by omega
      simp [h1, this]
theorem lookM_len {st : Std} {sts s : List Std} {i : Nat} (h : lookM st sts = some (i, s)) (hl : sts.length ≤ 120) : s.length ≤ 120 ∧ sts.length ≤ s.length := by
  unfold lookM at h
  split at h
  · cases h; exact ⟨hl, Nat.le_refl _⟩
  · split at h
    · cases h; rw [List.length_append]; exact ⟨by simp; omega, by simp⟩
    · cases h
def rowTo (cs : Cs) (ps : Pw) (ns : List Int) (t : Int) (r : Row) : Std := (toM cs ps (doneAll cs t ns r.deeds) r.goal, doneAll cs t ns r.deeds)
def pickM (cs : Cs) (ps : Pw) (ns : List Int) : List Row → List Std → Option (List Str × List Nat × List Std)
  | [], sts => some ([], [], sts)
  | r :: rs, sts => if openM cs ns r.cond = true then (match lookM (rowTo cs ps ns 0 r) sts with
    | some (i, s) => (match pickM cs ps ns rs s with
      | some (w, is, s2) => some (r.word :: w, i :: is, s2)
      | none => none)
    | none => none) else pickM cs ps ns rs sts
structure RowOk (cs : Cs) (ps : Pw) (r : Row) : Prop where
  cond : ∀ c b n, r.cond = some (c, b, n) → c ∈ nms cs
  deeds : ∀ d ∈ r.deeds, deedOk cs d
  goal : r.goal ∈ ps.map (·.1)
def bPick : En → List Std → OK := (yIfK (xT (xCl 3 F_is_open (xCons (xVar 0) (xCons (xVar 7) (xCons (xB ixD (xVar 2) (xC (.int 1))) xNil))))) (yConsK (upK (yApp 4 (xVar 6))) (yAppK 5 (xClK 2 F_found_at (xRK 1 (xRN (xCl 3 F_arrived (xCons (xVar 0) (xCons (xVar 9) (xCons (xCl 4 F_done_deeds (xCons (xVar 0) (xCons (xB ixD (xVar 2) (xC (.int 1))) (xCons (xVar 8) (xCons (xC (.int 0)) xNil))))) xNil)))) xR0))))) yNilK)
theorem pick_step {cs : Cs} {ps : Pw} {ns : List Int} {n : Str} (hg : GOk2 cs ps) (hl : ns.length = cs.length) {r : Row} (hr : RowOk cs ps r) {sts : List Std} (hs : sts.length ≤ 120) (w : PyData) (xs is : List PyData) (hx : xs.length < 16777216) (hi : is.length < 16777216) :
    bPick [.sh (gD cs (pw ps)), .kn, .sh (stD (n, ns)), .sh w, .own xs, .own is, .sh (.str r.word), .sh (condD r.cond), .sh (.list (r.deeds.map deedD)), .sh (.str r.goal)] sts =
      if openM cs ns r.cond = true then (match lookM (rowTo cs ps ns 0 r) sts with
        | some (i, s) => .nx [.sh (gD cs (pw ps)), .kn, .sh (stD (n, ns)), .sh w, .own (xs ++ [.str r.word]), .own (is ++ [.int (i : Nat)]), .sh (.str r.word), .sh (condD r.cond), .sh (.list (r.deeds.map deedD)), .sh (.str r.goal)] s
        | none => .ex "TooMany")
      else .nx [.sh (gD cs (pw ps)), .kn, .sh (stD (n, ns)), .sh w, .own xs, .own is, .sh (.str r.word), .sh (condD r.cond), .sh (.list (r.deeds.map deedD)), .sh (.str r.goal)] sts := by
  have e1 : F_is_open [gD cs (pw ps), condD r.cond, .list (ns.map .int)] = _ := is_open_eq hg.c hl hr.cond
  have e2 : F_done_deeds [gD cs (pw ps), .list (ns.map .int), .list (r.deeds.map deedD), .int 0] = _ := done_deeds_eq hg.c hl hr.deeds
  have e3 := arr_to hg (ns := doneAll cs 0 ns r.deeds) (by rw [doneAll_len, hl]) hr.goal
  have e4 := found_M (st := rowTo cs ps ns 0 r) hs
  unfold rowTo at e4
  unfold bPick
  by_cases ho : openM cs ns r.cond = true
  · simp only [ho, if_true]
    unfold rowTo
    cases hm : lookM (toM cs ps (doneAll cs 0 ns r.deeds) r.goal, doneAll cs 0 ns r.deeds) sts with
    | none => rw [hm] at e4; simp [stD, e1, ho, hx, hi, e2, sizeLine_eq]; simp [stD] at e3 e4; simp [e3, e4]
    | some p => obtain ⟨i, s⟩ := p; rw [hm] at e4; simp [stD, e1, ho, hx, hi, e2, sizeLine_eq]; simp [stD] at e3 e4; simp [e3, e4, hi, sizeLine_eq]
  · simp [stD, e1, ho]
theorem pickM_len {cs : Cs} {ps : Pw} {ns : List Int} : ∀ {rs : List Row} {sts s : List Std} {w : List Str} {is : List Nat}, pickM cs ps ns rs sts = some (w, is, s) → sts.length ≤ 120 → s.length ≤ 120 ∧ sts.length ≤ s.length ∧ w.length ≤ rs.length ∧ is.length = w.length
  | [], sts, s, w, is, h, hl => by cases h; exact ⟨hl, Nat.le_refl _, Nat.le_refl _, rfl⟩
  | r :: rs, sts, s, w, is, h, hl => by
    unfold pickM at h
    split at h
    · cases hm : lookM (rowTo cs ps ns 0 r) sts with
      | none => rw [hm] at h; cases h
      | some p =>
        obtain ⟨i, s1⟩ := p
        rw [hm] at h
        dsimp only at h
        obtain ⟨l1, l2⟩ := lookM_len hm hl
        cases hp : pickM cs ps ns rs s1 with
        | none => rw [hp] at h; cases h
        | some q =>
          obtain ⟨w', is', s'⟩ := q
          rw [hp] at h
          cases h
          obtain ⟨k1, k2, k3, k4⟩ := pickM_len hp l1
          exact ⟨k1, Nat.le_trans l2 k2, by simp; omega, by simp [k4]⟩
    · obtain ⟨k1, k2, k3, k4⟩ := pickM_len h hl
      exact ⟨k1, k2, by simp; omega, k4⟩
theorem pick_loop {cs : Cs} {ps : Pw} {ns : List Int} {n : Str} (hg : GOk2 cs ps) (hl : ns.length = cs.length) (w : PyData) : ∀ (rs : List Row) (sts : List Std) (xs is : List PyData) (s6 s7 s8 s9 : Slot), (∀ r ∈ rs, RowOk cs ps r) → sts.length ≤ 120 → xs.length + rs.length ≤ 16777216 → is.length + rs.length ≤ 16777216 → ∃ x6 x7 x8 x9 : Slot,
    loopK (tgTup [6, 7, 8, 9]) bPick (rs.map rowD) [.sh (gD cs (pw ps)), .kn, .sh (stD (n, ns)), .sh w, .own xs, .own is, s6, s7, s8, s9] sts = (match pickM cs ps ns rs sts with
      | some (ws, ks, s) => .nx [.sh (gD cs (pw ps)), .kn, .sh (stD (n, ns)), .sh w, .own (xs ++ ws.map .str), .own (is ++ ks.map fun k => .int (k : Nat)), x6, x7, x8, x9] s
      | none => .ex "TooMany")
  | [], sts, xs, is, s6, s7, s8, s9, _, _, _, _ => ⟨s6, s7, s8, s9, by simp [loopK, pickM]⟩
  | r :: rs, sts, xs, is, s6, s7, s8, s9, hr, hs, hx, hi => by
    rw [List.length_cons] at hx hi
    have st := pick_step (n := n) hg hl (hr r List.mem_cons_self) hs w xs is (by omega) (by omega)
    have e0 : loopK (tgTup [6, 7, 8, 9]) bPick ((r :: rs).map rowD) [.sh (gD cs (pw ps)), .kn, .sh (stD (n, ns)), .sh w, .own xs, .own is, s6, s7, s8, s9] sts =
      seqK (bPick [.sh (gD cs (pw ps)), .kn, .sh (stD (n, ns)), .sh w, .own xs, .own is, .sh (.str r.word), .sh (condD r.cond), .sh (.list (r.deeds.map deedD)), .sh (.str r.goal)] sts) (loopK (tgTup [6, 7, 8, 9]) bPick (rs.map rowD)) := rfl
    rw [e0, st]
    unfold pickM
    by_cases ho : openM cs ns r.cond = true
    · rw [if_pos ho, if_pos ho]
      cases hm : lookM (rowTo cs ps ns 0 r) sts with
      | none => exact ⟨s6, s7, s8, s9, rfl⟩
      | some p =>
        obtain ⟨i, s1⟩ := p
        obtain ⟨l1, l2⟩ := lookM_len hm hs
        obtain ⟨x6, x7, x8, x9, e⟩ := pick_loop (n := n) hg hl w rs s1 (xs ++ [.str r.word]) (is ++ [.int (i : Nat)]) (.sh (.str r.word)) (.sh (condD r.cond)) (.sh (.list (r.deeds.map deedD))) (.sh (.str r.goal)) (fun q hq => hr q (List.mem_cons_of_mem _ hq)) l1 (by simp; omega) (by simp; omega)
        refine ⟨x6, x7, x8, x9, ?_⟩
        show loopK _ _ _ _ _ = _
        rw [e]
        cases hp : pickM cs ps ns rs s1 with
        | none => simp [hp]
        | some q => simp [hp]
    · rw [if_neg ho, if_neg ho]
      exact pick_loop (n := n) hg hl w rs sts xs is _ _ _ _ (fun q hq => hr q (List.mem_cons_of_mem _ hq)) hs (by omega) (by omega)
@[simp] theorem strs_nolist (ns : List Str) : nolists (ns.map .str) = true := by
  induction ns with
  | nil => rfl
  | cons n r ih => rw [List.map_cons, nolists, ih]; rfl
@[simp] theorem nats_nolist (ns : List Nat) : nolists (ns.map fun k => .int (k : Nat)) = true := by
  induction ns with
  | nil => rfl
  | cons n r ih => rw [List.map_cons, nolists, ih]; rfl
theorem yConsK_nx {g h : En → List Std → OK} {ρ ρ' : En} {s s' : List Std} (e : g ρ s = .nx ρ' s') : yConsK g h ρ s = h ρ' s' := by unfold yConsK; rw [e]; rfl
theorem yConsK_ex {g h : En → List Std → OK} {ρ : En} {s : List Std} {x : Str} (e : g ρ s = .ex x) : yConsK g h ρ s = .ex x := by unfold yConsK; rw [e]; rfl
theorem pick_ways_eq {cs : Cs} {ps : Pw} {ns : List Int} {n : Str} {p : PyData} {rs : List Row} {sts : List Std} (hg : GOk2 cs ps) (hl : ns.length = cs.length) (hr : ∀ r ∈ rs, RowOk cs ps r) (hs : sts.length ≤ 120) (hrs : rs.length ≤ 1000) :
    F_pick_ways [.sh (gD cs (pw ps)), .kn, .sh (stD (n, ns)), .sh (whD (.pick p (.list (rs.map rowD))))] sts = (match pickM cs ps ns rs sts with
      | some (ws, ks, s) => if ws = [] then .exc "NoWay" else .ok (.tuple [.list (ws.map .str), .list (ks.map fun k => .int (k : Nat))], s)
      | none => .exc "TooMany") := by
  obtain ⟨x6, x7, x8, x9, e⟩ := pick_loop (n := n) hg hl (whD (.pick p (.list (rs.map rowD)))) rs sts [] [] .un .un .un .un hr hs (by simp; omega) (by simp; omega)
  have s1 : (upK (yOwn 4 (xLs xNil))) (envS 10 [.sh (gD cs (pw ps)), .kn, .sh (stD (n, ns)), .sh (whD (.pick p (.list (rs.map rowD))))]) sts = .nx [.sh (gD cs (pw ps)), .kn, .sh (stD (n, ns)), .sh (whD (.pick p (.list (rs.map rowD)))), .own [], .un, .un, .un, .un, .un] sts := by
    simp [envS]
  have s2 : (upK (yOwn 5 (xLs xNil))) [.sh (gD cs (pw ps)), .kn, .sh (stD (n, ns)), .sh (whD (.pick p (.list (rs.map rowD)))), .own [], .un, .un, .un, .un, .un] sts = .nx [.sh (gD cs (pw ps)), .kn, .sh (stD (n, ns)), .sh (whD (.pick p (.list (rs.map rowD)))), .own [], .own [], .un, .un, .un, .un] sts := by
    simp
  have s0 : (xItems (xB ixD (xVar 3) (xC (.int 2)))) [.sh (gD cs (pw ps)), .kn, .sh (stD (n, ns)), .sh (whD (.pick p (.list (rs.map rowD)))), .own [], .own [], .un, .un, .un, .un] = .ok (rs.map rowD) := by simp
  have s3 := e
  rw [show loopK (tgTup [6, 7, 8, 9]) bPick (rs.map rowD) [.sh (gD cs (pw ps)), .kn, .sh (stD (n, ns)), .sh (whD (.pick p (.list (rs.map rowD)))), .own [], .own [], .un, .un, .un, .un] sts = (yForK (xItems (xB ixD (xVar 3) (xC (.int 2)))) (tgTup [6, 7, 8, 9]) bPick) [.sh (gD cs (pw ps)), .kn, .sh (stD (n, ns)), .sh (whD (.pick p (.list (rs.map rowD)))), .own [], .own [], .un, .un, .un, .un] sts by
    unfold yForK; rw [s0]; rfl] at s3
  refine (congrArg finK ((yConsK_nx s1).trans (yConsK_nx s2))).trans ?_
  cases hp : pickM cs ps ns rs sts with
  | none =>
    rw [hp] at s3
    exact congrArg finK (yConsK_ex s3)
  | some q =>
    obtain ⟨ws, ks, s⟩ := q
    rw [hp] at s3
    refine (congrArg finK (yConsK_nx s3)).trans ?_
    by_cases hw : ws = []
    · subst hw
      simp
    · have : ws.length ≠ 0 := fun z => hw (List.eq_nil_of_length_eq_zero z)
      simp [hw, this, sizeLine_eq]
theorem turn_pick {cs : Cs} {ps : Pw} {a s5 s6 s7 s8 s9 : Slot} {bs wss : List PyData} {sts : List Std} {n : Str} {ns : List Int} {p : PyData} {rs : List Row} (hg : GOk2 cs ps) (hl : ns.length = cs.length) (hr : ∀ r ∈ rs, RowOk cs ps r) (hs : sts.length ≤ 120) (hrs : rs.length ≤ 1000) (hp : nolist p = true)
    (h : sts[bs.length]? = some (n, ns)) (hw : wAt ps n = some (.pick p (.list (rs.map rowD)))) (hb : bs.length < 16777216) (hw2 : wss.length < 16777216) :
    t_spread [.sh (gD cs (pw ps)), a, .kn, .owN bs, .owN wss, s5, s6, s7, s8, s9] sts = (match pickM cs ps ns rs sts with
      | some (ws, ks, s) => if ws = [] then .ex "NoWay" else .nx [.sh (gD cs (pw ps)), a, .kn, .owN (bs ++ [.tuple [.str "pick", p, .list (ks.map fun k => .int (k : Nat))]]), .owN (wss ++ [.list (ws.map .str)]), .nw (stD (n, ns)), .sh (whD (.pick p (.list (rs.map rowD)))), .nw (.list (ws.map .str)), .nw (.tuple [.str "pick", p, .list (ks.map fun k => .int (k : Nat))]), .nw (.list (ks.map fun k => .int (k : Nat)))] s
      | none => .ex "TooMany") := by
  have e := what_at_eq cs (pw ps) n
  rw [whatAt_pw, hw] at e
  have e2 := pick_ways_eq (n := n) (p := p) hg hl hr hs hrs
  unfold t_spread
  cases hm : pickM cs ps ns rs sts with
  | none =>
    rw [hm] at e2
    simp [stD] at e2
    simp [h, stD, e, e2]
  | some q =>
    obtain ⟨ws, ks, s⟩ := q
    rw [hm] at e2
    by_cases hw3 : ws = []
    · simp [stD, hw3] at e2
      simp [h, stD, e, e2, hw3]
    · simp [stD, hw3] at e2
      simp [h, stD, e, e2, hw3, hp, hb, hw2, sizeLine_eq]
/-- the loop, turn by turn -/
theorem whileS_go {b : En → List Std → OK} {g a s5 s6 s7 s8 s9 : Slot} {bs ws : List PyData} {sts : List Std} {k : Nat} (h : bs.length < sts.length) : whileS 3 2 b (k + 1) [g, a, .kn, .owN bs, .owN ws, s5, s6, s7, s8, s9] sts = seqK (b [g, a, .kn, .owN bs, .owN ws, s5, s6, s7, s8, s9] sts) (whileS 3 2 b k) := by
  simp [whileS, h]
theorem whileS_end {b : En → List Std → OK} {g a s5 s6 s7 s8 s9 : Slot} {bs ws : List PyData} {sts : List Std} {k : Nat} (h : bs.length = sts.length) : whileS 3 2 b (k + 1) [g, a, .kn, .owN bs, .owN ws, s5, s6, s7, s8, s9] sts = .nx [g, a, .kn, .owN bs, .owN ws, s5, s6, s7, s8, s9] sts := by
  simp [whileS, h]
def outK (o : OK) : R PyData := match seqK o (yFin 3 4 2) with
  | .rn d => .ok d
  | .ex n => .exc n
  | _ => .bad
theorem spread_eq {cs : Cs} {ps : Pw} {n0 : Str} {w0 : Wh} (hg : GOk2 cs ((n0, w0) :: ps)) : F_spread [gD cs (pw ((n0, w0) :: ps))] =
    outK (whileS 3 2 t_spread 1000 [.sh (gD cs (pw ((n0, w0) :: ps))), .nw (stD (toM cs ((n0, w0) :: ps) (cs.map fun _ => 0) n0, cs.map fun _ => 0)), .kn, .owN [], .owN [], .un, .un, .un, .un, .un] [(toM cs ((n0, w0) :: ps) (cs.map fun _ => 0) n0, cs.map fun _ => 0)]) := by
  have hz : (cs.map cD).length ≤ sizeLine := by rw [List.length_map]; exact sizeLe hg.c.few
  have c0 := comp_map (tgName 1) (xC (.int 0)) [.sh (gD cs (pw ((n0, w0) :: ps))), .un] cD (fun _ => .int 0) (fun c => ⟨_, rfl, rfl⟩) cs
  have z0 : cs.map (fun _ => PyData.int 0) = (cs.map fun _ => (0 : Int)).map .int := by rw [List.map_map]; rfl
  have e := arr_to hg (ns := cs.map fun _ => 0) (by rw [List.length_map]) (n := n0) (by simp)
  have b0 : F_begun [gD cs (pw ((n0, w0) :: ps))] = .ok (stD (toM cs ((n0, w0) :: ps) (cs.map fun _ => 0) n0, cs.map fun _ => 0)) := by
    have hx : (xL (xComp [1] (xItems (xB ixD (xVar 0) (xC (.int 0)))) (tgName 1) xYes (xC (.int 0)))) (env0 2 [gD cs (pw ((n0, w0) :: ps))]) = .ok (.list ((cs.map fun _ => (0 : Int)).map .int)) := by
      have hi : (xItems (xB ixD (xVar 0) (xC (.int 0)))) (env0 2 [gD cs (pw ((n0, w0) :: ps))]) = .ok (cs.map cD) := by simp [gD]
      unfold xL xComp
      rw [hi]
      show (R.bind (if (cs.map cD).length ≤ sizeLine then noX (compO _ _ _ (cs.map cD) [.sh (gD cs (pw ((n0, w0) :: ps))), .un]) else .bad) _) = _
      rw [if_pos hz, c0, ← z0]
      rfl
    have hn : (xB ixD (xB ixD (xB ixD (xVar 0) (xC (.int 1))) (xC (.int 0))) (xC (.int 0))) (env0 2 [gD cs (pw ((n0, w0) :: ps))]) = .ok (.str n0) := by simp [gD, pw, pD]
    have hv : (xVar 0) (env0 2 [gD cs (pw ((n0, w0) :: ps))]) = .ok (gD cs (pw ((n0, w0) :: ps))) := by simp
    show fin (yRet (xCl 3 F_arrived (xCons (xVar 0) (xCons (xB ixD (xB ixD (xB ixD (xVar 0) (xC (.int 1))) (xC (.int 0))) (xC (.int 0))) (xCons (xL (xComp [1] (xItems (xB ixD (xVar 0) (xC (.int 0)))) (tgName 1) xYes (xC (.int 0)))) xNil)))) (env0 2 [gD cs (pw ((n0, w0) :: ps))])) = _
    unfold yRet xCl xCall xCons xNil
    simp only [hv, hn, hx, R.bind, bO]
    rw [← e]
    simp
    cases F_arrived _ <;> rfl
  have s1 : (ySetN 1 (xCl 1 F_begun (xCons (xVar 0) xNil))) (env0 10 [gD cs (pw ((n0, w0) :: ps))]) = .nx [.sh (gD cs (pw ((n0, w0) :: ps))), .nw (stD (toM cs ((n0, w0) :: ps) (cs.map fun _ => 0) n0, cs.map fun _ => 0)), .un, .un, .un, .un, .un, .un, .un, .un] := by
    simp [b0]
  refine (congrArg fin (yCons_nx s1)).trans ?_
  unfold yStart
  simp only [List.getElem?_cons_succ, List.getElem?_cons_zero, stOf_stD]
  have pl : ([.sh (gD cs (pw ((n0, w0) :: ps))), .nw (stD (toM cs ((n0, w0) :: ps) (cs.map fun _ => 0) n0, cs.map fun _ => 0)), .un, .un, .un, .un, .un, .un, .un, .un] : En).all plainS = true := rfl
  rw [if_pos pl]
  have k1 : (yOwNK 3 (xLs xNil)) ([.sh (gD cs (pw ((n0, w0) :: ps))), .nw (stD (toM cs ((n0, w0) :: ps) (cs.map fun _ => 0) n0, cs.map fun _ => 0)), .kn, .un, .un, .un, .un, .un, .un, .un] : En) [(toM cs ((n0, w0) :: ps) (cs.map fun _ => 0) n0, cs.map fun _ => 0)] = .nx [.sh (gD cs (pw ((n0, w0) :: ps))), .nw (stD (toM cs ((n0, w0) :: ps) (cs.map fun _ => 0) n0, cs.map fun _ => 0)), .kn, .owN [], .un, .un, .un, .un, .un, .un] [(toM cs ((n0, w0) :: ps) (cs.map fun _ => 0) n0, cs.map fun _ => 0)] := by simp
  have k2 : (yOwNK 4 (xLs xNil)) ([.sh (gD cs (pw ((n0, w0) :: ps))), .nw (stD (toM cs ((n0, w0) :: ps) (cs.map fun _ => 0) n0, cs.map fun _ => 0)), .kn, .owN [], .un, .un, .un, .un, .un, .un] : En) [(toM cs ((n0, w0) :: ps) (cs.map fun _ => 0) n0, cs.map fun _ => 0)] = .nx [.sh (gD cs (pw ((n0, w0) :: ps))), .nw (stD (toM cs ((n0, w0) :: ps) (cs.map fun _ => 0) n0, cs.map fun _ => 0)), .kn, .owN [], .owN [], .un, .un, .un, .un, .un] [(toM cs ((n0, w0) :: ps) (cs.map fun _ => 0) n0, cs.map fun _ => 0)] := by simp
  refine (congrArg (fun o => fin (offK o _)) ((yConsK_nx k1).trans (yConsK_nx k2))).trans ?_
  unfold yConsK outK
  cases seqK (whileS 3 2 t_spread 1000 _ _) (yFin 3 4 2) <;> rfl
end G
set_option Elab.async false
set_option linter.all false
set_option maxRecDepth 100000
set_option maxHeartbeats 1000000
/-! Help for the laws: loops by what stays true, places of lists, draws. -/
namespace G
open PySem PySem.Spec L2 DL
theorem loop_inv {τ : PyData → En → R En} {body : En → O} : ∀ (ds : List PyData) (P : Nat → En → Prop), (∀ i d ρ, ds[i]? = some d → P i ρ → ∃ ρ1 ρ2, τ d ρ = .ok ρ1 ∧ body ρ1 = .nx ρ2 ∧ P (i + 1) ρ2) → ∀ ρ, P 0 ρ → ∃ ρ', loopO τ body ds ρ = .nx ρ' ∧ P ds.length ρ'
  | [], P, _, ρ, h => ⟨ρ, rfl, h⟩
  | d :: ds, P, hs, ρ, h => by
    obtain ⟨ρ1, ρ2, h1, h2, h3⟩ := hs 0 d ρ rfl h
    obtain ⟨ρ', e, h4⟩ := loop_inv (τ := τ) (body := body) ds (fun i => P (i + 1)) (fun i d' ρ hd hp => hs (i + 1) d' ρ hd hp) ρ2 h3
    refine ⟨ρ', ?_, h4⟩
    unfold loopO
    rw [h1]
    dsimp only
    rw [h2]
    exact e
theorem range_inv {τ : PyData → En → R En} {body : En → O} {lo : Int} (n : Nat) (P : Nat → En → Prop) (hs : ∀ i ρ, i < n → P i ρ → ∃ ρ1 ρ2, τ (.int (lo + (i : Nat))) ρ = .ok ρ1 ∧ body ρ1 = .nx ρ2 ∧ P (i + 1) ρ2) (ρ : En) (h : P 0 ρ) :
    ∃ ρ', loopO τ body (rangeL lo n) ρ = .nx ρ' ∧ P n ρ' := by
  have := loop_inv (τ := τ) (body := body) (rangeL lo n) P (fun i d ρ hd hp => by
    unfold rangeL at hd
    rw [List.getElem?_map] at hd
    simp only [Option.map_eq_some_iff] at hd
    obtain ⟨j, h1, rfl⟩ := hd
    obtain ⟨hl, he⟩ := List.getElem?_eq_some_iff.mp h1
    simp at hl he
    subst he
    exact hs i ρ hl hp) ρ h
  obtain ⟨ρ', h1, h2⟩ := this
  refine ⟨ρ', h1, ?_⟩
  have e : (rangeL lo n).length = n := by simp [rangeL]
  rw [e] at h2
  exact h2
@[simp] theorem ixD_list1 (a b : PyData) (r : List PyData) : ixD (.list (a :: b :: r)) (.int 1) = .ok b := ixD_list (k := 1) rfl
@[simp] theorem ixD_list2 (a b c : PyData) (r : List PyData) : ixD (.list (a :: b :: c :: r)) (.int 2) = .ok c := ixD_list (k := 2) rfl
@[simp] theorem ixD_list3 (a b c d : PyData) (r : List PyData) : ixD (.list (a :: b :: c :: d :: r)) (.int 3) = .ok d := ixD_list (k := 3) rfl
/-- a draw below n -/
theorem emod_nat (z : Int) {n : Nat} (h : 0 < n) : ∃ j : Nat, j < n ∧ z % (n : Int) = (j : Int) := by
  have h0 : (0 : Int) ≤ z % (n : Int) := Int.emod_nonneg _ (by omega)
  have h1 : z % (n : Int) < (n : Int) := Int.emod_lt_of_pos _ (by omega)
  exact ⟨(z % (n : Int)).toNat, by omega, by omega⟩
theorem emod_int (z : Int) {m : Int} (h : 0 < m) : ∃ j : Nat, (j : Int) < m ∧ z % m = (j : Int) := by
  have h0 : (0 : Int) ≤ z % m := Int.emod_nonneg _ (by omega)
  have h1 : z % m < m := Int.emod_lt_of_pos _ h
  exact ⟨(z % m).toNat, by omega, by omega⟩
theorem mulOk_small {i j : Int} (h0 : 0 ≤ i) (h : i < 2 ^ 64) : mulOk i j := Or.inl (Or.inl ⟨by omega, h⟩)
theorem mulD_l {i j : Int} (h0 : 0 ≤ i) (h : i < 18446744073709551616) : mulD (.int i) (.int j) = .ok (.int (i * j)) := by
  exact if_pos (mulOk_small h0 h)
theorem modD_p {i j : Int} (h : 0 < j) : modD (.int i) (.int j) = .ok (.int (i % j)) := if_pos h
theorem fdivD_p {i j : Int} (h : 0 < j) (h2 : j < 18446744073709551616) : fdivD (.int i) (.int j) = .ok (.int (i / j)) := by
  refine if_pos ?_
  exact ⟨h, Nat.lt_of_lt_of_le (m := 2 ^ 64) (by omega) (Nat.pow_le_pow_right (by decide) (by decide))⟩
theorem rng_of {j : Int} (h0 : 0 ≤ j) (h : j < 1000000) : rngOk j := ⟨by omega, by omega⟩
theorem pick_ex {α : Type} (enc : α → PyData) {xs : List α} (v : Int) (h : 0 < xs.length) : ∃ x ∈ xs, ixD (.list (xs.map enc)) (.int (v % (xs.length : Int))) = .ok (enc x) := by
  obtain ⟨j, hj, ej⟩ := emod_nat v h
  refine ⟨xs[j], List.getElem_mem hj, ?_⟩
  rw [ej]
  exact ixD_list (by rw [List.getElem?_map, List.getElem?_eq_getElem hj]; rfl)
theorem sl_drop (ds : List PyData) (k : Nat) : slD (.list ds) (some ((k : Int) + 1)) none = .ok (.list (ds.drop (k + 1))) := by
  have e : ((k : Int) + 1) = ((k + 1 : Nat) : Int) := by omega
  show R.ok (PyData.list (cutD ds (some ((k : Int) + 1)) none)) = _
  unfold cutD
  rw [e, HT.sIx_nat, HT.sIx_none]
  congr 2
  by_cases h : k + 1 ≤ ds.length
  · rw [Nat.min_eq_left h]
    exact List.take_of_length_le (by rw [List.length_drop]; omega)
  · rw [Nat.min_eq_right (by omega), List.drop_of_length_le (Nat.le_refl _), List.drop_of_length_le (by omega)]
    simp
theorem sl_take (ds : List PyData) (k : Nat) (h : k ≤ ds.length) : slD (.list ds) none (some (k : Int)) = .ok (.list (ds.take k)) := by
  show R.ok (PyData.list (cutD ds none (some (k : Int)))) = _
  unfold cutD
  rw [HT.sIx_nat, HT.sIx_none, Nat.min_eq_left h]
  simp
theorem cut_drop (ds : List PyData) (k : Nat) : cutD ds (some ((k : Int) + 1)) none = ds.drop (k + 1) := PyData.list.inj (R.ok.inj (sl_drop ds k))
theorem cut_take (ds : List PyData) (k : Nat) (h : k ≤ ds.length) : cutD ds none (some (k : Int)) = ds.take k := PyData.list.inj (R.ok.inj (sl_take ds k h))
theorem for_rng {f : En → R PyData} {τ : PyData → En → R En} {b : En → O} {ρ ρ' : En} {n : Nat} (h : f ρ = .ok (.int (n : Int))) (hn : n ≤ 1000) (e : loopO τ b (rangeL 0 n) ρ = .nx ρ') : yFor (xRng1 f) τ b ρ = .nx ρ' := by
  unfold yFor xRng1
  rw [h]
  show bO (if rngOk (n : Int) then R.ok (rangeL 0 (n : Int).toNat) else .bad) ρ _ = _
  rw [if_pos (rng_of (by omega) (by omega))]
  exact e
theorem for_items {f : En → R PyData} {τ : PyData → En → R En} {b : En → O} {ρ : En} {ds : List PyData} (h : f ρ = .ok (.list ds)) : yFor (xItems f) τ b ρ = loopO τ b ds ρ := by
  unfold yFor xItems
  rw [h]
  rfl
theorem xB_ok {op : PyData → PyData → R PyData} {fa fb : En → R PyData} {ρ : En} {a b : PyData} (ha : fa ρ = .ok a) (hb : fb ρ = .ok b) : xB op fa fb ρ = op a b := by
  unfold xB; rw [ha, hb]
theorem xT_ok {f : En → R PyData} {ρ : En} {b : Bool} (h : f ρ = .ok (.bool b)) : xT f ρ = .ok b := by unfold xT; rw [h]
theorem xCl_1 {F : List PyData → R PyData} {f : En → R PyData} {ρ : En} {a r : PyData} (h : f ρ = .ok a) (e : F [a] = .ok r) : xCl 1 F (xCons f xNil) ρ = .ok r := by
  unfold xCl xCall xCons xNil; rw [h]; exact e
theorem xCl_2 {F : List PyData → R PyData} {f g : En → R PyData} {ρ : En} {a b r : PyData} (h : f ρ = .ok a) (h2 : g ρ = .ok b) (e : F [a, b] = .ok r) : xCl 2 F (xCons f (xCons g xNil)) ρ = .ok r := by
  unfold xCl xCall xCons xNil; rw [h, h2]; exact e
theorem xCl_3 {F : List PyData → R PyData} {f g k : En → R PyData} {ρ : En} {a b c r : PyData} (h : f ρ = .ok a) (h2 : g ρ = .ok b) (h3 : k ρ = .ok c) (e : F [a, b, c] = .ok r) : xCl 3 F (xCons f (xCons g (xCons k xNil))) ρ = .ok r := by
  unfold xCl xCall xCons xNil; rw [h, h2, h3]; exact e
theorem ySet_ok {i : Nat} {f : En → R PyData} {ρ : En} {d : PyData} (h : f ρ = .ok d) : ySet i f ρ = .nx (ρ.set i (.sh d)) := by unfold ySet; rw [h]; rfl
theorem yIf_no {t : En → R Bool} {g h : En → O} {ρ : En} (e : t ρ = .ok false) : yIf t g h ρ = h ρ := by unfold yIf; rw [e]; rfl
theorem yIf_yes {t : En → R Bool} {g h : En → O} {ρ : En} (e : t ρ = .ok true) : yIf t g h ρ = g ρ := by unfold yIf; rw [e]; rfl
theorem eqD_refl {d : PyData} {k : Nat} (h : Sh k d) (l : k ≤ 64) : eqD d d = .ok (.bool true) := by unfold eqD; rw [eqB_refl h l]
theorem neD_refl {d : PyData} {k : Nat} (h : Sh k d) (l : k ≤ 64) : neD d d = .ok (.bool false) := by unfold neD; rw [eqB_refl h l]; rfl
theorem seqK_nx (ρ : En) (sts : List Std) (g : En → List Std → OK) : seqK (.nx ρ sts) g = g ρ sts := rfl
end G
set_option Elab.async false
set_option linter.all false
set_option maxRecDepth 100000
set_option maxHeartbeats 4000000
/-! The defs of the text, read by the data layer. Written by gen.py. -/
namespace G
open PySem PySem.Spec L2 DL
def topS (i : Nat) : Stmt := PySem.Challenge.pw_pressluck_k53_asks_gone_through.main.body.getD i (.Pass ⟨0, 0, 0, 0⟩)
abbrev s_divisor_of : Stmt := topS 7
theorem sc_divisor_of : FnScope ["one", "other"] ["one", "other"] (defScope s_divisor_of) := ⟨rfl, rfl, rfl, by decide +kernel, rfl, by decide +kernel, by decide +kernel⟩
abbrev s_share : Stmt := topS 8
theorem sc_share : FnScope ["top", "bottom", "by"] ["top", "bottom"] (defScope s_share) := ⟨rfl, rfl, rfl, by decide +kernel, rfl, by decide +kernel, by decide +kernel⟩
abbrev s_table_of : Stmt := topS 10
theorem sc_table_of : FnScope ["rows", "total", "weights", "value", "weight"] ["rows"] (defScope s_table_of) := ⟨rfl, rfl, rfl, by decide +kernel, rfl, by decide +kernel, by decide +kernel⟩
abbrev s_sides_of : Stmt := topS 14
theorem sc_sides_of : FnScope ["part"] ["part"] (defScope s_sides_of) := ⟨rfl, rfl, rfl, by decide +kernel, rfl, by decide +kernel, by decide +kernel⟩
abbrev s_most_faces : Stmt := topS 15
theorem sc_most_faces : FnScope ["part"] ["part"] (defScope s_most_faces) := ⟨rfl, rfl, rfl, by decide +kernel, rfl, by decide +kernel, by decide +kernel⟩
abbrev s_power_of : Stmt := topS 16
theorem sc_power_of : FnScope ["base", "many", "found", "k"] ["base", "many"] (defScope s_power_of) := ⟨rfl, rfl, rfl, by decide +kernel, rfl, by decide +kernel, by decide +kernel⟩
abbrev s_count_of : Stmt := topS 17
theorem sc_count_of : FnScope ["part", "sides", "low"] ["part"] (defScope s_count_of) := ⟨rfl, rfl, rfl, by decide +kernel, rfl, by decide +kernel, by decide +kernel⟩
abbrev s_ask_pool : Stmt := topS 18
theorem sc_ask_pool : FnScope ["pool", "many", "bottom", "part"] ["pool"] (defScope s_ask_pool) := ⟨rfl, rfl, rfl, by decide +kernel, rfl, by decide +kernel, by decide +kernel⟩
abbrev s_goes_on : Stmt := topS 19
theorem sc_goes_on : FnScope ["part", "faces"] ["part", "faces"] (defScope s_goes_on) := ⟨rfl, rfl, rfl, by decide +kernel, rfl, by decide +kernel, by decide +kernel⟩
abbrev s_longer_throws : Stmt := topS 20
theorem sc_longer_throws : FnScope ["part", "faces", "found", "face"] ["part", "faces"] (defScope s_longer_throws) := ⟨rfl, rfl, rfl, by decide +kernel, rfl, by decide +kernel, by decide +kernel⟩
abbrev s_worth_of : Stmt := topS 21
theorem sc_worth_of : FnScope ["part", "faces", "face"] ["part", "faces"] (defScope s_worth_of) := ⟨rfl, rfl, rfl, by decide +kernel, rfl, by decide +kernel, by decide +kernel⟩
abbrev s_plain_rows : Stmt := topS 22
theorem sc_plain_rows : FnScope ["pool", "found", "part", "own", "longer", "ahead", "value", "bottom", "faces", "more"] ["pool"] (defScope s_plain_rows) := ⟨rfl, rfl, rfl, by decide +kernel, rfl, by decide +kernel, by decide +kernel⟩
abbrev s_pool_table : Stmt := topS 23
theorem sc_pool_table : FnScope ["pool", "rows", "whole", "part", "faces", "value", "bottom"] ["pool"] (defScope s_pool_table) := ⟨rfl, rfl, rfl, by decide +kernel, rfl, by decide +kernel, by decide +kernel⟩
abbrev s_what_at : Stmt := topS 26
theorem sc_what_at : FnScope ["game", "name", "told", "what"] ["game", "name"] (defScope s_what_at) := ⟨rfl, rfl, rfl, by decide +kernel, rfl, by decide +kernel, by decide +kernel⟩
abbrev s_number_of : Stmt := topS 27
theorem sc_number_of : FnScope ["game", "count", "name", "most"] ["game", "count"] (defScope s_number_of) := ⟨rfl, rfl, rfl, by decide +kernel, rfl, by decide +kernel, by decide +kernel⟩
abbrev s_is_open : Stmt := topS 28
theorem sc_is_open : FnScope ["game", "when", "counts", "number"] ["game", "when", "counts"] (defScope s_is_open) := ⟨rfl, rfl, rfl, by decide +kernel, rfl, by decide +kernel, by decide +kernel⟩
abbrev s_arrived : Stmt := topS 29
theorem sc_arrived : FnScope ["game", "name", "counts", "what"] ["game", "name", "counts"] (defScope s_arrived) := ⟨rfl, rfl, rfl, by decide +kernel, rfl, by decide +kernel, by decide +kernel⟩
abbrev s_begun : Stmt := topS 30
theorem sc_begun : FnScope ["game", "count"] ["game"] (defScope s_begun) := ⟨rfl, rfl, rfl, by decide +kernel, rfl, by decide +kernel, by decide +kernel⟩
abbrev s_done_deeds : Stmt := topS 31
theorem sc_done_deeds : FnScope ["game", "counts", "deeds", "thrown", "found", "deed", "at", "to", "number"] ["game", "counts", "deeds", "thrown"] (defScope s_done_deeds) := ⟨rfl, rfl, rfl, by decide +kernel, rfl, by decide +kernel, by decide +kernel⟩
abbrev s_found_at : Stmt := topS 32
theorem sc_found_at : FnScope ["known", "state", "states", "numbers", "key"] ["known", "state"] (defScope s_found_at) := ⟨rfl, rfl, rfl, by decide +kernel, rfl, by decide +kernel, by decide +kernel⟩
abbrev s_throw_ways : Stmt := topS 33
theorem sc_throw_ways : FnScope ["game", "known", "state", "what", "ways", "whole", "value", "part", "low", "high", "deeds", "goal", "to"] ["game", "known", "state", "what"] (defScope s_throw_ways) := ⟨rfl, rfl, rfl, by decide +kernel, rfl, by decide +kernel, by decide +kernel⟩
abbrev s_pick_ways : Stmt := topS 34
theorem sc_pick_ways : FnScope ["game", "known", "state", "what", "words", "ways", "word", "when", "deeds", "goal"] ["game", "known", "state", "what"] (defScope s_pick_ways) := ⟨rfl, rfl, rfl, by decide +kernel, rfl, by decide +kernel, by decide +kernel⟩
abbrev s_spread : Stmt := topS 35
theorem sc_spread : FnScope ["game", "start", "known", "board", "words", "state", "what", "some", "place", "ways"] ["game"] (defScope s_spread) := ⟨rfl, rfl, rfl, by decide +kernel, rfl, by decide +kernel, by decide +kernel⟩
abbrev s__law_at : Stmt := topS 37
theorem sc__law_at : FnScope ["_law_script", "_law_k", "_law_base"] ["_law_script", "_law_k"] (defScope s__law_at) := ⟨rfl, rfl, rfl, by decide +kernel, rfl, by decide +kernel, by decide +kernel⟩
abbrev s__law_counts : Stmt := topS 38
theorem sc__law_counts : FnScope ["_law_script", "_law_counts_here", "_law_k"] ["_law_script"] (defScope s__law_counts) := ⟨rfl, rfl, rfl, by decide +kernel, rfl, by decide +kernel, by decide +kernel⟩
abbrev s__law_asks : Stmt := topS 39
theorem sc__law_asks : FnScope ["_law_script", "_law_counts_here", "_law_asks_here", "_law_ends", "_law_names", "_law_places", "_law_k", "_law_cell", "_law_behind", "_law_name", "_law_most", "_law_number", "_law_one", "_law_what"] ["_law_script", "_law_counts_here"] (defScope s__law_asks) := ⟨rfl, rfl, rfl, by decide +kernel, rfl, by decide +kernel, by decide +kernel⟩
abbrev s__law_led : Stmt := topS 40
theorem sc__law_led : FnScope ["_law_places", "_law_counts_here", "_law_numbers", "_law_at_here", "_law_word", "_law_name", "_law_number", "_law_one", "_law_other", "_law_goal", "_law_k", "_law_place"] ["_law_places", "_law_counts_here", "_law_numbers"] (defScope s__law_led) := ⟨rfl, rfl, rfl, by decide +kernel, rfl, by decide +kernel, by decide +kernel⟩
abbrev s__law_end : Stmt := topS 41
theorem sc__law_end : FnScope ["_law_place", "_law_counts_here", "_law_numbers", "_law_name", "_law_most"] ["_law_place", "_law_counts_here", "_law_numbers"] (defScope s__law_end) := ⟨rfl, rfl, rfl, by decide +kernel, rfl, by decide +kernel, by decide +kernel⟩
abbrev s__law_told : Stmt := topS 42
theorem sc__law_told : FnScope ["_law_found", "_law_due", "_law_part", "_law_name", "_law_numbers", "_law_one"] ["_law_found", "_law_due"] (defScope s__law_told) := ⟨rfl, rfl, rfl, by decide +kernel, rfl, by decide +kernel, by decide +kernel⟩
abbrev s_law : Stmt := topS 43
theorem sc_law : FnScope ["_law_script", "_law_counts_here", "_law_places", "_law_noughts", "_law_count", "_law_first", "_law_due", "_law_handed", "_law_deeds", "_law_numbers", "_law_k", "_law_number", "_law_who", "_law_last", "_law_game", "_law_states", "_law_found"] ["_law_script"] (defScope s_law) := ⟨rfl, rfl, rfl, by decide +kernel, rfl, by decide +kernel, by decide +kernel⟩
/-- what the top has left -/
structure Txt (K : Fg) (mg : Str → Option Value) (ca : Str → Value) : Prop where
  d_divisor_of : DefK K mg "divisor_of" s_divisor_of
  d_share : DefK K mg "share" s_share
  d_table_of : DefK K mg "table_of" s_table_of
  d_sides_of : DefK K mg "sides_of" s_sides_of
  d_most_faces : DefK K mg "most_faces" s_most_faces
  d_power_of : DefK K mg "power_of" s_power_of
  d_count_of : DefK K mg "count_of" s_count_of
  d_ask_pool : DefK K mg "ask_pool" s_ask_pool
  d_goes_on : DefK K mg "goes_on" s_goes_on
  d_longer_throws : DefK K mg "longer_throws" s_longer_throws
  d_worth_of : DefK K mg "worth_of" s_worth_of
  d_plain_rows : DefK K mg "plain_rows" s_plain_rows
  d_pool_table : DefK K mg "pool_table" s_pool_table
  d_what_at : DefK K mg "what_at" s_what_at
  d_number_of : DefK K mg "number_of" s_number_of
  d_is_open : DefK K mg "is_open" s_is_open
  d_arrived : DefK K mg "arrived" s_arrived
  d_begun : DefK K mg "begun" s_begun
  d_done_deeds : DefK K mg "done_deeds" s_done_deeds
  d_found_at : DefK K mg "found_at" s_found_at
  d_throw_ways : DefK K mg "throw_ways" s_throw_ways
  d_pick_ways : DefK K mg "pick_ways" s_pick_ways
  d_spread : DefK K mg "spread" s_spread
  d__law_at : DefK K mg "_law_at" s__law_at
  d__law_counts : DefK K mg "_law_counts" s__law_counts
  d__law_asks : DefK K mg "_law_asks" s__law_asks
  d__law_led : DefK K mg "_law_led" s__law_led
  d__law_end : DefK K mg "_law_end" s__law_end
  d__law_told : DefK K mg "_law_told" s__law_told
  d_law : DefK K mg "law" s_law
  x_LuckError : ExK K mg ca "LuckError"
  x_NoShare : ExK K mg ca "NoShare"
  x_NoTable : ExK K mg ca "NoTable"
  x_TooMany : ExK K mg ca "TooMany"
  x_NoWay : ExK K mg ca "NoWay"
  b_ValueError : mg "ValueError" = none
  b_abs : mg "abs" = none
  b_bool : mg "bool" = none
  b_isinstance : mg "isinstance" = none
  b_len : mg "len" = none
  b_list : mg "list" = none
  b_min : mg "min" = none
  b_range : mg "range" = none
  b_sorted : mg "sorted" = none
  b_sum : mg "sum" = none
  b_tuple : mg "tuple" = none
  c_MOST_THROWS : ∃ t, mg "MOST_THROWS" = some (.int 1296 t)
  c_MOST_BOTTOM : ∃ t, mg "MOST_BOTTOM" = some (.int 1000000 t)
  c_MOST_STATES : ∃ t, mg "MOST_STATES" = some (.int 120 t)
section
variable {P : Program} {w : World} {K : Fg} {mg : Str → Option Value} {base : Heap} {ca : Str → Value}
theorem ok_divisor_of (T : Txt K mg ca) : Cal P w K mg base ca 1 "divisor_of" 2 F_divisor_of := by
  refine mk_cal (k := 0) T.d_divisor_of sc_divisor_of rfl (fun _ _ _ _ _ _ us hl => match us, hl with | [_, _], _ => rfl) (fun f cdv A outer s H E c hca tk hp hr => ?_) (fun _ _ => rfl)
  subst hca
  exact (zCons (zWhile 1000000 hp (tCmp op_gt ao_gt (nomark _) (toP (eVar 1)) (toP eInt)) (zOne (zPar 0 1 rfl sc_divisor_of.nd (aCons (eVar 1) (aCons (eMod (toP (eVar 0)) (toP (eVar 1))) aNil))))) (zOne (zRet (eVar 0))))
theorem ok_share (T : Txt K mg ca) : Cal P w K mg base ca 2 "share" 2 F_share := by
  refine mk_cal (k := 1) T.d_share sc_share rfl (fun _ _ _ _ _ _ us hl => match us, hl with | [_, _], _ => rfl) (fun f cdv A outer s H E c hca tk hp hr => ?_) (fun _ _ => rfl)
  subst hca
  exact (zCons (zIf (tCmp (op_eqX hr) ao_eq (nomark _) (toP (eVar 1)) (toP eInt)) (zOne (zRaise rfl tk T.x_NoShare (by rfl))) zNil) (zCons (zIf (tCmp op_lt ao_lt (nomark _) (toP (eVar 1)) (toP eInt)) (zCons (zSet 0 sc_share.nd (eNeg (toP (eVar 0)))) (zOne (zSet 1 sc_share.nd (eNeg (toP (eVar 1)))))) zNil) (zCons (zSet 2 sc_share.nd (eCal (ok_divisor_of T) tk hr (aCons (eBf call_abs bo_abs (by rfl) T.b_abs (by decide +kernel) (sCons (toS (eVar 0)) sNil)) (aCons (eVar 1) aNil)) (by decide))) (zOne (zRet (eTup (aCons (eDiv (toP (eVar 0)) (toP (eVar 2))) (aCons (eDiv (toP (eVar 1)) (toP (eVar 2))) aNil))))))))
theorem ok_table_of (T : Txt K mg ca) : Cal P w K mg base ca 3 "table_of" 1 F_table_of := by
  refine mk_cal (k := 2) T.d_table_of sc_table_of rfl (fun _ _ _ _ _ _ us hl => match us, hl with | [_], _ => rfl) (fun f cdv A outer s H E c hca tk hp hr => ?_) (fun _ _ => rfl)
  subst hca
  exact (zCons (zSet 1 sc_table_of.nd eInt) (zCons (zOdc 2 sc_table_of.nd dNew) (zCons (zFor hp rfl (iItems (eVar 0)) (gT2' rfl (gsCons (gName' 3 sc_table_of.nd) (gsCons (gName' 4 sc_table_of.nd) gsNil))) (tgt_tup _ [3, 4] rfl) (zCons (zIf (tCmp op_lt ao_lt (nomark _) (toP (eVar 4)) (toP eInt)) (zOne (zRaise rfl tk T.x_NoTable (by rfl))) zNil) (zCons (zSet 1 sc_table_of.nd (eAdd (toS (eVar 1)) (toS (eVar 4)))) (zOne (zPutD 2 hr (toP (eVar 3)) (eAdd (toS (eGet2 hr (pVar 2) (toP (eVar 3)) eInt)) (toS (eVar 4)))))))) (zCons (zIf (tCmp (op_eqX hr) ao_eq (nomark _) (toP (eVar 1)) (toP eInt)) (zOne (zRaise rfl tk T.x_NoTable (by rfl))) zNil) (zOne (zRet (eL (lComp rfl sc_table_of.nd (iItems (eL (lBf (call_sortX rfl) bl_sort (by rfl) T.b_sorted (by decide +kernel) (sCons (pVar 2) sNil)))) (blkOk_by (own := [("value", 3)]) (show blkC ["rows", "total", "weights", "value", "weight"] (defScope s_table_of) _ _ = true by decide +kernel)) rfl (tgt_name _ 3) (fun _ _ _ _ _ => (gName' 3 sc_table_of.nd)) (fun _ _ _ _ _ => (ts1 (tCmp op_gt ao_gt (nomark _) (toP (eDg hr (pVar 2) (toP (eVar 3)))) (toP eInt)))) (fun _ _ _ _ _ => (eTup (aCons (eVar 3) (aCons (eCal (ok_share T) takes0 hr (aCons (eDg hr (pVar 2) (toP (eVar 3))) (aCons (eVar 1) aNil)) (by decide)) aNil))))).1)))))))
theorem ok_sides_of (T : Txt K mg ca) : Cal P w K mg base ca 1 "sides_of" 1 F_sides_of := by
  refine mk_cal (k := 0) T.d_sides_of sc_sides_of rfl (fun _ _ _ _ _ _ us hl => match us, hl with | [_], _ => rfl) (fun f cdv A outer s H E c hca tk hp hr => ?_) (fun _ _ => rfl)
  subst hca
  exact (zCons (zIf (tCmp (op_eqX hr) ao_eq (nomark _) (toP (eIx (toS (eVar 0)) (toP eInt))) (toP eStr)) (zOne (zRet eInt)) zNil) (zOne (zRet (eIx (toS (eVar 0)) (toP (eNeg (toP eInt)))))))
theorem ok_most_faces (T : Txt K mg ca) : Cal P w K mg base ca 1 "most_faces" 1 F_most_faces := by
  refine mk_cal (k := 0) T.d_most_faces sc_most_faces rfl (fun _ _ _ _ _ _ us hl => match us, hl with | [_], _ => rfl) (fun f cdv A outer s H E c hca tk hp hr => ?_) (fun _ _ => rfl)
  subst hca
  exact (zCons (zIf (tCmp (op_eqX hr) ao_eq (nomark _) (toP (eIx (toS (eVar 0)) (toP eInt))) (toP eStr)) (zOne (zRet eInt)) zNil) (zCons (zIf (tCmp (op_eqX hr) ao_eq (nomark _) (toP (eIx (toS (eVar 0)) (toP eInt))) (toP eStr)) (zOne (zRet (eAdd (toS eInt) (toS (eBf (call_min2 rfl) bo_min (by rfl) T.b_min (by decide +kernel) (sCons (toS (eIx (toS (eVar 0)) (toP eInt))) (sCons (toS eInt) sNil))))))) zNil) (zCons (zIf (tCmp (op_eqX hr) ao_eq (nomark _) (toP (eIx (toS (eVar 0)) (toP eInt))) (toP eStr)) (zOne (zRet (eAdd (toS eInt) (toS (eIx (toS (eVar 0)) (toP eInt)))))) zNil) (zOne (zRet (eIx (toS (eVar 0)) (toP (eNeg (toP eInt)))))))))
theorem ok_power_of (T : Txt K mg ca) : Cal P w K mg base ca 1 "power_of" 2 F_power_of := by
  refine mk_cal (k := 0) T.d_power_of sc_power_of rfl (fun _ _ _ _ _ _ us hl => match us, hl with | [_, _], _ => rfl) (fun f cdv A outer s H E c hca tk hp hr => ?_) (fun _ _ => rfl)
  subst hca
  exact (zCons (zSet 2 sc_power_of.nd eInt) (zCons (zFor hp rfl (iRng1 (by rfl) T.b_range (toP (eVar 1))) (gName' 3 sc_power_of.nd) (tgt_name _ 3) (zOne (zSet 2 sc_power_of.nd (eMul (toP (eVar 2)) (toP (eVar 0)))))) (zOne (zRet (eVar 2)))))
theorem ok_count_of (T : Txt K mg ca) : Cal P w K mg base ca 2 "count_of" 1 F_count_of := by
  refine mk_cal (k := 1) T.d_count_of sc_count_of rfl (fun _ _ _ _ _ _ us hl => match us, hl with | [_], _ => rfl) (fun f cdv A outer s H E c hca tk hp hr => ?_) (fun _ _ => rfl)
  subst hca
  exact (zCons (zSet 1 sc_count_of.nd (eCal (ok_sides_of T) tk hr (aCons (eVar 0) aNil) (by decide))) (zCons (zIf (tCmp (op_eqX hr) ao_eq (nomark _) (toP (eIx (toS (eVar 0)) (toP eInt))) (toP eStr)) (zCons (zSet 2 sc_count_of.nd (eBf (call_min2 rfl) bo_min (by rfl) T.b_min (by decide +kernel) (sCons (toS (eIx (toS (eVar 0)) (toP eInt))) (sCons (toS (eVar 1)) sNil)))) (zOne (zRet (eAdd (toS (eSub (toP (eVar 1)) (toP (eVar 2)))) (toS (eMul (toP (eVar 2)) (toP (eVar 1)))))))) zNil) (zCons (zIf (tCmp (op_eqX hr) ao_eq (nomark _) (toP (eIx (toS (eVar 0)) (toP eInt))) (toP eStr)) (zOne (zRet (eAdd (toS (eMul (toP (eSub (toP (eVar 1)) (toP eInt))) (toP (eIx (toS (eVar 0)) (toP eInt))))) (toS (eVar 1))))) zNil) (zOne (zRet (eCal (ok_power_of T) tk hr (aCons (eVar 1) (aCons (eCal (ok_most_faces T) tk hr (aCons (eVar 0) aNil) (by decide)) aNil)) (by decide)))))))
theorem ok_ask_pool (T : Txt K mg ca) : Cal P w K mg base ca 3 "ask_pool" 1 F_ask_pool := by
  refine mk_cal (k := 2) T.d_ask_pool sc_ask_pool rfl (fun _ _ _ _ _ _ us hl => match us, hl with | [_], _ => rfl) (fun f cdv A outer s H E c hca tk hp hr => ?_) (fun _ _ => rfl)
  subst hca
  exact (zCons (zSet 1 sc_ask_pool.nd eInt) (zCons (zSet 2 sc_ask_pool.nd eInt) (zCons (zFor hp rfl (iItems (eVar 0)) (gName' 3 sc_ask_pool.nd) (tgt_name _ 3) (zCons (zSet 1 sc_ask_pool.nd (eMul (toP (eVar 1)) (toP (eCal (ok_count_of T) tk hr (aCons (eVar 3) aNil) (by decide))))) (zOne (zSet 2 sc_ask_pool.nd (eMul (toP (eVar 2)) (toP (eCal (ok_power_of T) tk hr (aCons (eCal (ok_sides_of T) tk hr (aCons (eVar 3) aNil) (by decide)) (aCons (eCal (ok_most_faces T) tk hr (aCons (eVar 3) aNil) (by decide)) aNil)) (by decide)))))))) (zOne (zIf (tW (wOr (tCmp op_gt ao_gt (nomark _) (toP (eVar 1)) (toP (eGlI (by rfl) T.c_MOST_THROWS))) (wOr1 (tCmp op_gt ao_gt (nomark _) (toP (eVar 2)) (toP (eGlI (by rfl) T.c_MOST_BOTTOM)))))) (zOne (zRaise rfl tk T.x_TooMany (by rfl))) zNil)))))
theorem ok_goes_on (T : Txt K mg ca) : Cal P w K mg base ca 2 "goes_on" 2 F_goes_on := by
  refine mk_cal (k := 1) T.d_goes_on sc_goes_on rfl (fun _ _ _ _ _ _ us hl => match us, hl with | [_, _], _ => rfl) (fun f cdv A outer s H E c hca tk hp hr => ?_) (fun _ _ => rfl)
  subst hca
  exact (zCons (zIf (tCmp (op_eqX hr) ao_eq (nomark _) (toP (eBf call_lenX bo_len (by rfl) T.b_len (by decide +kernel) (sCons (toS (eVar 1)) sNil))) (toP (eCal (ok_most_faces T) tk hr (aCons (eVar 0) aNil) (by decide)))) (zOne (zRet eBl)) zNil) (zCons (zIf (tCmp (op_eqX hr) ao_eq (nomark _) (toP (eBf call_lenX bo_len (by rfl) T.b_len (by decide +kernel) (sCons (toS (eVar 1)) sNil))) (toP eInt)) (zOne (zRet eBl)) zNil) (zCons (zIf (tCmp (op_eqX hr) ao_eq (nomark _) (toP (eIx (toS (eVar 0)) (toP eInt))) (toP eStr)) (zOne (zRet (eCmp op_le ao_le (nomark _) (toP (eIx (toS (eVar 1)) (toP (eNeg (toP eInt))))) (toP (eIx (toS (eVar 0)) (toP eInt)))))) zNil) (zCons (zIf (tCmp (op_eqX hr) ao_eq (nomark _) (toP (eIx (toS (eVar 0)) (toP eInt))) (toP eStr)) (zOne (zRet (eCmp (op_eqX hr) ao_eq (nomark _) (toP (eIx (toS (eVar 1)) (toP (eNeg (toP eInt))))) (toP (eIx (toS (eVar 0)) (toP eInt)))))) zNil) (zOne (zRet eBl))))))
theorem okr_longer_throws (T : Txt K mg ca) : ∀ r, Cal P w K mg base ca (2 + 1 + r) "longer_throws" 2 (F_longer_throws r)
  | 0 => mk_bad T.d_longer_throws sc_longer_throws rfl (fun _ _ _ _ _ _ us hl => match us, hl with | [_, _], _ => rfl)
  | r + 1 => by
    have ih0 := okr_longer_throws T r
    refine mk_cal (k := 2 + 1 + r) T.d_longer_throws sc_longer_throws rfl (fun _ _ _ _ _ _ us hl => match us, hl with | [_, _], _ => rfl) (fun f cdv A outer s H E c hca tk hp hr => ?_) (fun _ _ => rfl)
    subst hca
    have ih := ih0
    exact (zCons (zIf (tNot' (tVal (eCal (ok_goes_on T) tk hr (aCons (eVar 0) (aCons (eVar 1) aNil)) (by omega)))) (zOne (zRet (eL (lLst (aCons (eVar 1) aNil))))) zNil) (zCons (zOwn 2 sc_longer_throws.nd (lLst aNil)) (zCons (zFor hp rfl (iRng2 (by rfl) T.b_range (toP eInt) (toP (eAdd (toS (eCal (ok_sides_of T) tk hr (aCons (eVar 0) aNil) (by omega))) (toS eInt)))) (gName' 3 sc_longer_throws.nd) (tgt_name _ 3) (zOne (zExt 2 (toS (eCal ih tk hr (aCons (eVar 0) (aCons (eAdd (toS (eVar 1)) (toS (eL (lLst (aCons (eVar 3) aNil))))) aNil)) (by omega)))))) (zOne (zFrz 2 (zRet (eVar 2)))))))
theorem ok_longer_throws (T : Txt K mg ca) : Cal P w K mg base ca 11 "longer_throws" 2 (F_longer_throws 8) := okr_longer_throws T 8
theorem ok_worth_of (T : Txt K mg ca) : Cal P w K mg base ca 1 "worth_of" 2 F_worth_of := by
  refine mk_cal (k := 0) T.d_worth_of sc_worth_of rfl (fun _ _ _ _ _ _ us hl => match us, hl with | [_, _], _ => rfl) (fun f cdv A outer s H E c hca tk hp hr => ?_) (fun _ _ => rfl)
  subst hca
  exact (zCons (zIf (tCmp (op_eqX hr) ao_eq (nomark _) (toP (eIx (toS (eVar 0)) (toP eInt))) (toP eStr)) (zOne (zRet (eIx (toS (eVar 0)) (toP eInt)))) zNil) (zCons (zIf (tCmp (op_eqX hr) ao_eq (nomark _) (toP (eIx (toS (eVar 0)) (toP eInt))) (toP eStr)) (zOne (zRet (eBf (cr_sum rfl) bo_sum (by rfl) T.b_sum (by decide +kernel) (sCons (toS (eSl (toS (eL (lBf (call_sortX rfl) bl_sort (by rfl) T.b_sorted (by decide +kernel) (sCons (toS (eVar 1)) sNil)))) (o1 (toP (eSub (toP (eBf call_lenX bo_len (by rfl) T.b_len (by decide +kernel) (sCons (toS (eVar 1)) sNil))) (toP (eIx (toS (eVar 0)) (toP eInt)))))) o0)) sNil)))) zNil) (zCons (zIf (tCmp (op_eqX hr) ao_eq (nomark _) (toP (eIx (toS (eVar 0)) (toP eInt))) (toP eStr)) (zOne (zRet (eBf (cr_sum rfl) bo_sum (by rfl) T.b_sum (by decide +kernel) (sCons (toS (eSl (toS (eL (lBf (call_sortX rfl) bl_sort (by rfl) T.b_sorted (by decide +kernel) (sCons (toS (eVar 1)) sNil)))) o0 (o1 (toP (eIx (toS (eVar 0)) (toP eInt)))))) sNil)))) zNil) (zCons (zIf (tCmp (op_eqX hr) ao_eq (nomark _) (toP (eIx (toS (eVar 0)) (toP eInt))) (toP eStr)) (zOne (zRet (eBf call_lenX bo_len (by rfl) T.b_len (by decide +kernel) (sCons (toS (eL (lComp rfl sc_worth_of.nd (iItems (eVar 1)) (blkOk_by (own := [("face", 2)]) (show blkC ["part", "faces", "face"] (defScope s_worth_of) _ _ = true by decide +kernel)) rfl (tgt_name _ 2) (fun _ _ _ _ _ => (gName' 2 sc_worth_of.nd)) (fun _ _ _ _ _ => (ts1 (tCmp op_ge ao_ge (nomark _) (toP (eVar 2)) (toP (eIx (toS (eVar 0)) (toP eInt)))))) (fun _ _ _ _ _ => (eVar 2))).1)) sNil)))) zNil) (zCons (zIf (tCmp (op_eqX hr) ao_eq (nomark _) (toP (eIx (toS (eVar 0)) (toP eInt))) (toP eStr)) (zOne (zRet (eIx (toS (eVar 1)) (toP (eNeg (toP eInt)))))) zNil) (zOne (zRet (eBf (cr_sum rfl) bo_sum (by rfl) T.b_sum (by decide +kernel) (sCons (toS (eVar 1)) sNil)))))))))
theorem ok_plain_rows (T : Txt K mg ca) : Cal P w K mg base ca 12 "plain_rows" 1 F_plain_rows := by
  refine mk_cal (k := 11) T.d_plain_rows sc_plain_rows rfl (fun _ _ _ _ _ _ us hl => match us, hl with | [_], _ => rfl) (fun f cdv A outer s H E c hca tk hp hr => ?_) (fun _ _ => rfl)
  subst hca
  exact (zCons (zExpr (eCal (ok_ask_pool T) tk hr (aCons (eVar 0) aNil) (by decide))) (zCons (zSet 1 sc_plain_rows.nd (eL (lLst (aCons (eTup (aCons (eL (lLst aNil)) (aCons eInt (aCons eInt aNil)))) aNil)))) (zCons (zFor hp rfl (iItems (eVar 0)) (gName' 2 sc_plain_rows.nd) (tgt_name _ 2) (zCons (zSetC 3 rfl sc_plain_rows.nd (lComp rfl sc_plain_rows.nd (iItems (eCal (ok_longer_throws T) tk hr (aCons (eVar 2) (aCons (eL (lLst aNil)) aNil)) (by decide))) (blkOk_by (own := [("faces", 8)]) (show blkC ["pool", "found", "part", "own", "longer", "ahead", "value", "bottom", "faces", "more"] (defScope s_plain_rows) _ _ = true by decide +kernel)) rfl (tgt_name _ 8) (fun _ _ _ _ _ => (gName' 8 sc_plain_rows.nd)) (fun _ _ _ _ _ => ts0) (fun _ _ _ _ _ => (eTup (aCons (eVar 8) (aCons (eCal (ok_worth_of T) takes0 hr (aCons (eVar 2) (aCons (eVar 8) aNil)) (by decide)) aNil))))) (iItems (eCal (ok_longer_throws T) tk hr (aCons (eVar 2) (aCons (eL (lLst aNil)) aNil)) (by decide))) (blkOk_by (own := [("faces", 8)]) (show blkC ["pool", "found", "part", "own", "longer", "ahead", "value", "bottom", "faces", "more"] (defScope s_plain_rows) _ _ = true by decide +kernel)) (fun _ _ _ _ _ => (gName' 8 sc_plain_rows.nd)) (fun _ _ _ _ _ => ts0) (fun _ _ _ _ _ => (eTup (aCons (eVar 8) (aCons (eCal (ok_worth_of T) takes0 hr (aCons (eVar 2) (aCons (eVar 8) aNil)) (by decide)) aNil)))) (sw_true rfl rfl rfl (by decide +kernel))) (zCons (zOwn 4 sc_plain_rows.nd (lLst aNil)) (zCons (zFor hp rfl (iItems (eVar 1)) (gT2' rfl (gsCons (gName' 5 sc_plain_rows.nd) (gsCons (gName' 6 sc_plain_rows.nd) (gsCons (gName' 7 sc_plain_rows.nd) gsNil)))) (tgt_tup _ [5, 6, 7] rfl) (zOne (zFor hp rfl (iItems (eVar 3)) (gT2' rfl (gsCons (gName' 8 sc_plain_rows.nd) (gsCons (gName' 9 sc_plain_rows.nd) gsNil))) (tgt_tup _ [8, 9] rfl) (zOne (zApp 4 (eTup (aCons (eAdd (toS (eVar 5)) (toS (eVar 8))) (aCons (eAdd (toS (eVar 6)) (toS (eVar 9))) (aCons (eMul (toP (eVar 7)) (toP (eCal (ok_power_of T) tk hr (aCons (eCal (ok_sides_of T) tk hr (aCons (eVar 2) aNil) (by decide)) (aCons (eBf call_lenX bo_len (by rfl) T.b_len (by decide +kernel) (sCons (toS (eVar 8)) sNil)) aNil)) (by decide)))) aNil))))))))) (zOne (zFrz 4 (zSet 1 sc_plain_rows.nd (eVar 4)))))))) (zOne (zRet (eVar 1))))))
theorem ok_pool_table (T : Txt K mg ca) : Cal P w K mg base ca 13 "pool_table" 1 F_pool_table := by
  refine mk_cal (k := 12) T.d_pool_table sc_pool_table rfl (fun _ _ _ _ _ _ us hl => match us, hl with | [_], _ => rfl) (fun f cdv A outer s H E c hca tk hp hr => ?_) (fun _ _ => rfl)
  subst hca
  exact (zCons (zSet 1 sc_pool_table.nd (eCal (ok_plain_rows T) tk hr (aCons (eVar 0) aNil) (by decide))) (zCons (zSet 2 sc_pool_table.nd eInt) (zCons (zFor hp rfl (iItems (eVar 0)) (gName' 3 sc_pool_table.nd) (tgt_name _ 3) (zOne (zSet 2 sc_pool_table.nd (eMul (toP (eVar 2)) (toP (eCal (ok_power_of T) tk hr (aCons (eCal (ok_sides_of T) tk hr (aCons (eVar 3) aNil) (by decide)) (aCons (eCal (ok_most_faces T) tk hr (aCons (eVar 3) aNil) (by decide)) aNil)) (by decide))))))) (zOne (zRet (eCal (ok_table_of T) tk hr (aCons (eL (lComp rfl sc_pool_table.nd (iItems (eVar 1)) (blkOk_by (own := [("faces", 4), ("value", 5), ("bottom", 6)]) (show blkC ["pool", "rows", "whole", "part", "faces", "value", "bottom"] (defScope s_pool_table) _ _ = true by decide +kernel)) rfl (tgt_tup _ [4, 5, 6] rfl) (fun _ _ _ _ _ => (gT2' rfl (gsCons (gName' 4 sc_pool_table.nd) (gsCons (gName' 5 sc_pool_table.nd) (gsCons (gName' 6 sc_pool_table.nd) gsNil))))) (fun _ _ _ _ _ => ts0) (fun _ _ _ _ _ => (eTup (aCons (eVar 5) (aCons (eDiv (toP (eVar 2)) (toP (eVar 6))) aNil))))).1) aNil) (by decide)))))))
theorem ok_what_at (T : Txt K mg ca) : Cal P w K mg base ca 1 "what_at" 2 F_what_at := by
  refine mk_cal (k := 0) T.d_what_at sc_what_at rfl (fun _ _ _ _ _ _ us hl => match us, hl with | [_, _], _ => rfl) (fun f cdv A outer s H E c hca tk hp hr => ?_) (fun _ _ => rfl)
  subst hca
  exact (zCons (zFor hp rfl (iItems (eIx (toS (eVar 0)) (toP eInt))) (gT2' rfl (gsCons (gName' 2 sc_what_at.nd) (gsCons (gName' 3 sc_what_at.nd) gsNil))) (tgt_tup _ [2, 3] rfl) (zOne (zIf (tCmp (op_eqX hr) ao_eq (nomark _) (toP (eVar 2)) (toP (eVar 1))) (zOne (zRet (eVar 3))) zNil))) (zOne (zRet eNon)))
theorem ok_number_of (T : Txt K mg ca) : Cal P w K mg base ca 1 "number_of" 2 F_number_of := by
  refine mk_cal (k := 0) T.d_number_of sc_number_of rfl (fun _ _ _ _ _ _ us hl => match us, hl with | [_, _], _ => rfl) (fun f cdv A outer s H E c hca tk hp hr => ?_) (fun _ _ => rfl)
  subst hca
  exact (zOne (zRet (eLindex hr (toS (eL (lComp rfl sc_number_of.nd (iItems (eIx (toS (eVar 0)) (toP eInt))) (blkOk_by (own := [("name", 2), ("most", 3)]) (show blkC ["game", "count", "name", "most"] (defScope s_number_of) _ _ = true by decide +kernel)) rfl (tgt_tup _ [2, 3] rfl) (fun _ _ _ _ _ => (gT2' rfl (gsCons (gName' 2 sc_number_of.nd) (gsCons (gName' 3 sc_number_of.nd) gsNil)))) (fun _ _ _ _ _ => ts0) (fun _ _ _ _ _ => (eVar 2))).1)) (toP (eVar 1)))))
theorem ok_is_open (T : Txt K mg ca) : Cal P w K mg base ca 2 "is_open" 3 F_is_open := by
  refine mk_cal (k := 1) T.d_is_open sc_is_open rfl (fun _ _ _ _ _ _ us hl => match us, hl with | [_, _, _], _ => rfl) (fun f cdv A outer s H E c hca tk hp hr => ?_) (fun _ _ => rfl)
  subst hca
  exact (zCons (zIf (tCmp op_isN ao_is (nomark _) (toP (eVar 1)) (toP eNon)) (zOne (zRet eBl)) zNil) (zCons (zSet 3 sc_is_open.nd (eIx (toS (eVar 2)) (toP (eCal (ok_number_of T) tk hr (aCons (eVar 0) (aCons (eIx (toS (eVar 1)) (toP eInt)) aNil)) (by decide))))) (zCons (zIf (tCmp (op_eqX hr) ao_eq (nomark _) (toP (eIx (toS (eVar 1)) (toP eInt))) (toP eStr)) (zOne (zRet (eCmp op_ge ao_ge (nomark _) (toP (eVar 3)) (toP (eIx (toS (eVar 1)) (toP eInt)))))) zNil) (zOne (zRet (eCmp op_lt ao_lt (nomark _) (toP (eVar 3)) (toP (eIx (toS (eVar 1)) (toP eInt)))))))))
theorem okN_arrived (T : Txt K mg ca) : CalN P w K mg base ca 2 "arrived" 3 F_arrived := by
  refine mk_calN (k := 1) T.d_arrived sc_arrived rfl (fun _ _ _ _ _ _ us hl => match us, hl with | [_, _, _], _ => rfl) (fun f cdv A outer s H E c hca tk hp hr => ?_) (fun _ _ => rfl)
  subst hca
  exact (nCons (nLift (zSet 3 sc_arrived.nd (eCal (ok_what_at T) tk hr (aCons (eVar 0) (aCons (eVar 1) aNil)) (by decide)))) (nCons (nLift (zWhile 1000000 hp (tCmp (op_eqX hr) ao_eq (nomark _) (toP (eIx (toS (eVar 3)) (toP eInt))) (toP eStr)) (zCons (zSet 1 sc_arrived.nd (eIx (toS (eVar 3)) (toP eInt))) (zCons (zIf (tCmp op_ge ao_ge (nomark _) (toP (eIx (toS (eVar 2)) (toP (eCal (ok_number_of T) tk hr (aCons (eVar 0) (aCons (eIx (toS (eVar 3)) (toP eInt)) aNil)) (by decide))))) (toP (eIx (toS (eVar 3)) (toP eInt)))) (zOne (zSet 1 sc_arrived.nd (eIx (toS (eVar 3)) (toP eInt)))) zNil) (zOne (zSet 3 sc_arrived.nd (eCal (ok_what_at T) tk hr (aCons (eVar 0) (aCons (eVar 1) aNil)) (by decide)))))))) (nOne (nRet (nTup (naCons (nNo (eVar 1)) (naCons (nL (lTf call_list_of bl_list (by rfl) T.b_list (by decide +kernel) (sCons (toS (eVar 2)) sNil))) naNil)))))))
theorem okN_begun (T : Txt K mg ca) : CalN P w K mg base ca 3 "begun" 1 F_begun := by
  refine mk_calN (k := 2) T.d_begun sc_begun rfl (fun _ _ _ _ _ _ us hl => match us, hl with | [_], _ => rfl) (fun f cdv A outer s H E c hca tk hp hr => ?_) (fun _ _ => rfl)
  subst hca
  exact (nOne (nRet (nCal (okN_arrived T) tk hr (aCons (eVar 0) (aCons (eIx (toS (eIx (toS (eIx (toS (eVar 0)) (toP eInt))) (toP eInt))) (toP eInt)) (aCons (eL (lComp rfl sc_begun.nd (iItems (eIx (toS (eVar 0)) (toP eInt))) (blkOk_by (own := [("count", 1)]) (show blkC ["game", "count"] (defScope s_begun) _ _ = true by decide +kernel)) rfl (tgt_name _ 1) (fun _ _ _ _ _ => (gName' 1 sc_begun.nd)) (fun _ _ _ _ _ => ts0) (fun _ _ _ _ _ => eInt)).1) aNil))) (by decide))))
theorem ok_done_deeds (T : Txt K mg ca) : Cal P w K mg base ca 2 "done_deeds" 4 F_done_deeds := by
  refine mk_cal (k := 1) T.d_done_deeds sc_done_deeds rfl (fun _ _ _ _ _ _ us hl => match us, hl with | [_, _, _, _], _ => rfl) (fun f cdv A outer s H E c hca tk hp hr => ?_) (fun _ _ => rfl)
  subst hca
  exact (zCons (zOwn 4 sc_done_deeds.nd (lTf call_list_of bl_list (by rfl) T.b_list (by decide +kernel) (sCons (toS (eVar 1)) sNil))) (zCons (zFor hp rfl (iItems (eVar 2)) (gName' 5 sc_done_deeds.nd) (tgt_name _ 5) (zCons (zSet 6 sc_done_deeds.nd (eCal (ok_number_of T) tk hr (aCons (eVar 0) (aCons (eIx (toS (eVar 5)) (toP eInt)) aNil)) (by decide))) (zCons (zSet 7 sc_done_deeds.nd (eVar 6)) (zCons (zSet 8 sc_done_deeds.nd (eIx (pVar 4) (toP (eVar 6)))) (zCons (zIf (tCmp (op_eqX hr) ao_eq (nomark _) (toP (eIx (toS (eVar 5)) (toP eInt))) (toP eStr)) (zOne (zSet 8 sc_done_deeds.nd (eIx (toS (eVar 5)) (toP eInt)))) (zOne (zIf (tCmp (op_eqX hr) ao_eq (nomark _) (toP (eIx (toS (eVar 5)) (toP eInt))) (toP eStr)) (zOne (zSet 8 sc_done_deeds.nd (eAdd (toS (eVar 8)) (toS (eIx (toS (eVar 5)) (toP eInt)))))) (zOne (zIf (tCmp (op_eqX hr) ao_eq (nomark _) (toP (eIx (toS (eVar 5)) (toP eInt))) (toP eStr)) (zOne (zSet 8 sc_done_deeds.nd (eAdd (toS (eVar 8)) (toS (eVar 3))))) (zCons (zSet 7 sc_done_deeds.nd (eCal (ok_number_of T) tk hr (aCons (eVar 0) (aCons (eIx (toS (eVar 5)) (toP eInt)) aNil)) (by decide))) (zCons (zSet 8 sc_done_deeds.nd (eAdd (toS (eIx (pVar 4) (toP (eVar 7)))) (toS (eIx (pVar 4) (toP (eVar 6)))))) (zOne (zPutL 4 (toP (eVar 6)) eInt))))))))) (zOne (zPutL 4 (toP (eVar 7)) (eBf (call_min2 rfl) bo_min (by rfl) T.b_min (by decide +kernel) (sCons (toS (eVar 8)) (sCons (toS (eIx (toS (eIx (toS (eIx (toS (eVar 0)) (toP eInt))) (toP (eVar 7)))) (toP eInt))) sNil)))))))))) (zOne (zFrz 4 (zRet (eVar 4))))))
theorem ok_found_at (T : Txt K mg ca) : CalK P w K mg base ca 1 "found_at" 2 F_found_at := by
  refine mk_calK (lv := 0) (body := m_found_at) T.d_found_at sc_found_at rfl (fun _ _ _ _ _ _ us hl => match us, hl with | [_, _], _ => rfl) (fun f cdv A outer s H E c k hca tk hp hr => ?_) (fun _ _ _ => rfl)
  subst hca
  refine pss_imp (pss_cons (ps_asg (pe_var (i := 0) rfl (Or.inl rfl)) (gT2' rfl (gsCons (gName' 2 sc_found_at.nd) (gsCons (gName' 3 sc_found_at.nd) gsNil))))
    (pss_cons (ps_set sc_found_at.nd (i := 4) rfl (Or.inl rfl) (pe_any fun F0 H0 Hn kn => eTup (c := cAt c F0 H0 Hn kn) (aCons (eIx (toS (eVar 1)) (toP eInt)) (aCons (eTx call_tuple_of bx_tuple (by rfl) T.b_tuple (by decide +kernel) (sCons (toS (eIx (toS (eVar 1)) (toP eInt))) sNil)) aNil))))
    (pss_cons (ps_if (pt_cmpR (op_nmNin hr) (pe_var (i := 4) rfl (Or.inl rfl)) (pe_var (i := 3) rfl (Or.inl rfl)) (by rfl))
      (pss_cons (ps_if (pt_cmpR (op_eqX hr) (pe_callB call_lenX (by rfl) T.b_len (by decide +kernel) (pa_cons (pe_var (i := 2) rfl (Or.inl rfl)) pa_nil)) (pe_any fun F0 H0 Hn kn => eGlI (c := cAt c F0 H0 Hn kn) (by rfl) T.c_MOST_STATES) (nomark _))
          (pss_one (ps_any fun F0 H0 Hn kn => zRaise (c := cAt c F0 H0 Hn kn) rfl tk T.x_TooMany (by rfl))) pss_nil)
        (pss_cons (ps_nmPut hr (pe_var (i := 3) rfl (Or.inl rfl)) (pe_var (i := 4) rfl (Or.inl rfl)) (pe_callB call_lenX (by rfl) T.b_len (by decide +kernel) (pa_cons (pe_var (i := 2) rfl (Or.inl rfl)) pa_nil)))
          (pss_one (ps_expr (pe_bm PySem.F.plainAttrs_list PySem.F.slot_list_append PySem.F.type_list_append mt_append (pe_var (i := 2) rfl (Or.inl rfl)) (pa_cons (pe_var (i := 1) rfl (Or.inl rfl)) pa_nil)))))) pss_nil)
      (pss_one (ps_ret (pe_nmGet hr (pe_var (i := 3) rfl (Or.inl rfl)) (pe_var (i := 4) rfl (Or.inl rfl)))))))) ?_
  intro D σ H ⟨F, ρ, sts, r, q⟩
  unfold m_found_at at q
  split at q
  · rename_i d
    split at q
    · rename_i st hst
      have := stOf_eq hst
      subst this
      obtain ⟨vs, hl, rl⟩ := r.am.l
      obtain ⟨as, hd, rd⟩ := r.am.d
      have h0 : σ[0]? = some (some (.ref k.t)) := r.rl.at_ 0 _ rfl
      obtain ⟨v1, h1, rv1⟩ := r.rl.at_ 1 _ rfl
      have hlen : σ.length = 5 := r.rl.len.symm
      have lenvs : vs.length = sts.length := by rw [rl.len, List.length_map]
      match σ, hlen, h0, h1, r, q with
      | [s0, s1, s2, s3, s4], _, h0, h1, r, q =>
      obtain rfl : s0 = some (.ref k.t) := Option.some.inj h0
      obtain rfl : s1 = some v1 := Option.some.inj h1
      refine ⟨.ref k.t, rfl, Or.inl ⟨k.t, _, rfl, sqT_same r.rl.s r.am.t, rfl, gN_ok rfl ?_⟩⟩
      refine ⟨F, H, c.Hn, .ref k.t, F, _, rl_one (j := 1) (Ext.refl r.rl.s) rfl rv1.rp, ?_⟩
      have hk : xTup (xCons (xB ixD (xVar 1) (xC (.int 0))) (xCons (xF tupleD (xCons (xB ixD (xVar 1) (xC (.int 1))) xNil)) xNil)) [.un, .sh (stD st), .un, .un, .un] = .ok (keyD st) := by
        simp [R.bind, atI, xTup, xCons, xB, xVar, xC, ixD, xF, xNil, stD, keyD, tupleD, sizeLine_eq, ixN]
      refine Eq.mpr (congrArg (fun y => Po _ _ _ _ y _) hk) ?_
      refine fun F1 H1 x1 v rv => ?_
      have am1 := r.am.ext x1
      have e1 : Ext c.F0 c.H0 F1 H1 := r.e0.trans x1
      have hl1 := x1.h _ _ hl
      have hd1 := x1.h _ _ hd
      have nm1 : Nm P w K H1 k.da sts as := ⟨hd1, rd.same (x1.f.trans x1.s), r.am.nd⟩
      refine ⟨v, rfl, .ref k.da, rfl, ⟨k.da, st, sts, as, rfl, nm1, rv.same x1.s, ⟨_, rfl, ?_⟩⟩⟩
      unfold lookUp at q
      by_cases hm : st ∈ sts
      · rw [if_pos hm] at q
        simp only [hm, decide_true, Bool.not_true, Bool.false_eq_true, if_false]
        exact ⟨.ref k.da, rfl, v, rfl, k.da, st, sts, as, rfl, nm1, rv.same x1.s, hm, q F1 H1 _ e1 am1 (.int _)⟩
      · rw [if_neg hm] at q
        simp only [hm, decide_false, Bool.not_false, if_true]
        refine ⟨.ref k.sa, rfl, Or.inl ⟨.ref k.sa, _, rfl, Or.inl ⟨vs, .of hl1, rfl⟩, F1, H1, c.Hn, .ref k.t, F1, _, rl_un (Ext.refl x1.s), ?_⟩⟩
        refine fun F2 H2 x2 u ru => ?_
        cases ru
        have am2 := am1.ext x2
        have e2 : Ext c.F0 c.H0 F2 H2 := e1.trans x2
        have hl2 := x2.h _ _ hl1
        have hd2 := x2.h _ _ hd1
        have rv2 := rv.same x2.f
        have f02 : Same F F2 := x1.f.trans x2.f
        refine ao_eq.sound (.int vs.length) (.int 120) (.bool (decide ((vs.length : Int) = 120))) _ _ H2 _ (.int _) (.int _) rfl fun q1 hq => ?_
        cases hq F2
        refine ⟨_, rfl, ?_⟩
        rw [lenvs]
        by_cases hz : sts.length < 120
        · rw [if_pos hz] at q
          have hne : ¬ ((sts.length : Int) = 120) := by omega
          simp only [hne, decide_false, Bool.false_eq_true, if_false]
          obtain ⟨a, ws, rfl⟩ : ∃ a ws, v = .ref a := by
            cases rv with
            | tup h _ => exact ⟨_, (), rfl⟩
          have nm2 : Nm P w K H2 k.da sts as := ⟨hd2, rd.same (f02.trans x2.s), r.am.nd⟩
          refine ⟨.ref k.sa, rfl, Or.inl ⟨.ref k.sa, _, rfl, Or.inl ⟨vs, .of hl2, rfl⟩, ⟨.ref k.da, rfl, .ref a, rfl, k.da, st, sts, as, a, rfl, rfl, by rw [lenvs], nm2, rv2.same x2.s, hm, by omega, ?_⟩⟩⟩
          have hl3 : (upd H2 k.da (numO P w k.da (sts ++ [st]) (as ++ [a]))) k.sa = some (.lst vs) := by rw [upd_ne am2.ne]; exact hl2
          refine ⟨.ref k.sa, rfl, Or.inl ⟨rfl, vs, .of hl3⟩, v1, rfl, k.sa, vs, v1, rfl, rfl, hl3, by rw [lenvs, sizeLine_eq]; omega, ?_⟩
          have am3 := two_amb (a := a) am2 hm hl2 (rl.same f02) (rd.same f02) (rv1.same f02) rv2
          have s3 := two_same (o := numO P w k.da (sts ++ [st]) (as ++ [a])) (o' := .lst (vs ++ [v1])) am2.fs am2.fd x2.s
          obtain ⟨as3, hd3, rd3⟩ := am3.d
          have e3 : Ext c.F0 c.H0 F2 _ := ⟨e2.f, fun p u e => by
            rw [upd_ne (fun z => by subst z; rw [r.hs] at e; cases e), upd_ne (fun z => by subst z; rw [r.hd] at e; cases e)]
            exact e2.h p u e, s3, e2.n⟩
          refine ⟨.ref k.da, rfl, .ref a, rfl, k.da, st, sts ++ [st], as3, rfl, ⟨hd3, rd3.same s3, am3.nd⟩, rv2.same s3, List.mem_append_right _ (List.mem_singleton.mpr rfl), ?_⟩
          rw [idxOf_snoc hm]
          exact q F2 _ _ e3 am3 (.int _)
        · rw [if_neg hz] at q
          by_cases hy : sts.length = 120
          · rw [if_pos hy] at q
            have hne : ((sts.length : Int) = 120) := by omega
            simp only [hne, decide_true, if_true]
            exact ⟨F2, H2, c.Hn, .ref k.t, F2, _, rl_un (Ext.refl x2.s), fun F3 H3 σ3 r3 => q H3 σ3 (e2.h.trans r3.e.h)⟩
          · rw [if_neg hy] at q; exact q.elim
    · exact q.elim
  · exact q.elim
theorem ok_throw_ways (T : Txt K mg ca) : CalK P w K mg base ca 14 "throw_ways" 4 F_throw_ways := by
  refine mk_calK (lv := 13) T.d_throw_ways sc_throw_ways rfl (fun _ _ _ _ _ _ us hl => match us, hl with | [_, _, _, _], _ => rfl) (fun f cdv A outer s H E c k hca tk hp hr => ?_) (fun _ _ _ => rfl)
  subst hca
  exact (kCons (kLift fun F0 H0 Hn kn => (zOwn 4 sc_throw_ways.nd (lLst aNil))) (kCons (kLift fun F0 H0 Hn kn => (zSet 5 sc_throw_ways.nd eInt)) (kCons (kFor hp rfl (fun F0 H0 Hn kn => (iItems (eCal (ok_pool_table T) tk hr (aCons (eIx (toS (eVar 3)) (toP eInt)) aNil) (by decide)))) (gT2' rfl (gsCons (gName' 6 sc_throw_ways.nd) (gsCons (gName' 7 sc_throw_ways.nd) gsNil))) (tgt_tup _ [6, 7] rfl) (kCons (kLift fun F0 H0 Hn kn => (zSet 5 sc_throw_ways.nd (eDiv (toP (eMul (toP (eVar 5)) (toP (eIx (toS (eVar 7)) (toP eInt))))) (toP (eCal (ok_divisor_of T) tk hr (aCons (eVar 5) (aCons (eIx (toS (eVar 7)) (toP eInt)) aNil)) (by decide)))))) (kOne (kFor hp rfl (fun F0 H0 Hn kn => (iItems (eIx (toS (eVar 3)) (toP eInt)))) (gT2' rfl (gsCons (gName' 8 sc_throw_ways.nd) (gsCons (gName' 9 sc_throw_ways.nd) (gsCons (gName' 10 sc_throw_ways.nd) (gsCons (gName' 11 sc_throw_ways.nd) gsNil))))) (tgt_tup _ [8, 9, 10, 11] rfl) (kOne (kIf (fun F0 H0 Hn kn => (tCh op_le ao_le op_le ao_le (toP (eVar 8)) (toP (eVar 6)) (toP (eVar 9)))) (kCons (kSet 12 sc_throw_ways.nd (kCal (ok_found_at T) tk hr (fun F0 H0 Hn kn => rK 1 (rN (nCal (okN_arrived T) tk hr (aCons (eVar 0) (aCons (eVar 11) (aCons (eCal (ok_done_deeds T) tk hr (aCons (eVar 0) (aCons (eIx (toS (eVar 2)) (toP eInt)) (aCons (eVar 10) (aCons (eVar 6) aNil)))) (by decide)) aNil))) (by decide)) r0)) (by decide))) (kOne (kLift fun F0 H0 Hn kn => (zApp 4 (eTup (aCons (eVar 7) (aCons (eVar 12) aNil))))))) kNil)))))) (kOne (kFrz 4 (kRet fun F0 H0 Hn kn => nL (lComp rfl sc_throw_ways.nd (iItems (eVar 4)) (blkOk_by (own := [("part", 7), ("to", 12)]) (show blkC ["game", "known", "state", "what", "ways", "whole", "value", "part", "low", "high", "deeds", "goal", "to"] (defScope s_throw_ways) _ _ = true by decide +kernel)) rfl (tgt_tup _ [7, 12] rfl) (fun _ _ _ _ _ => (gT2' rfl (gsCons (gName' 7 sc_throw_ways.nd) (gsCons (gName' 12 sc_throw_ways.nd) gsNil)))) (fun _ _ _ _ _ => ts0) (fun _ _ _ _ _ => (eTup (aCons (eMul (toP (eIx (toS (eVar 7)) (toP eInt))) (toP (eDiv (toP (eVar 5)) (toP (eIx (toS (eVar 7)) (toP eInt)))))) (aCons (eVar 12) aNil))))).1))))))
theorem ok_pick_ways (T : Txt K mg ca) : CalK P w K mg base ca 3 "pick_ways" 4 F_pick_ways := by
  refine mk_calK (lv := 2) T.d_pick_ways sc_pick_ways rfl (fun _ _ _ _ _ _ us hl => match us, hl with | [_, _, _, _], _ => rfl) (fun f cdv A outer s H E c k hca tk hp hr => ?_) (fun _ _ _ => rfl)
  subst hca
  exact (kCons (kLift fun F0 H0 Hn kn => (zOwn 4 sc_pick_ways.nd (lLst aNil))) (kCons (kLift fun F0 H0 Hn kn => (zOwn 5 sc_pick_ways.nd (lLst aNil))) (kCons (kFor hp rfl (fun F0 H0 Hn kn => (iItems (eIx (toS (eVar 3)) (toP eInt)))) (gT2' rfl (gsCons (gName' 6 sc_pick_ways.nd) (gsCons (gName' 7 sc_pick_ways.nd) (gsCons (gName' 8 sc_pick_ways.nd) (gsCons (gName' 9 sc_pick_ways.nd) gsNil))))) (tgt_tup _ [6, 7, 8, 9] rfl) (kOne (kIf (fun F0 H0 Hn kn => (tVal (eCal (ok_is_open T) tk hr (aCons (eVar 0) (aCons (eVar 7) (aCons (eIx (toS (eVar 2)) (toP eInt)) aNil))) (by decide)))) (kCons (kLift fun F0 H0 Hn kn => (zApp 4 (eVar 6))) (kOne (kApp 5 (kCal (ok_found_at T) tk hr (fun F0 H0 Hn kn => rK 1 (rN (nCal (okN_arrived T) tk hr (aCons (eVar 0) (aCons (eVar 9) (aCons (eCal (ok_done_deeds T) tk hr (aCons (eVar 0) (aCons (eIx (toS (eVar 2)) (toP eInt)) (aCons (eVar 8) (aCons eInt aNil)))) (by decide)) aNil))) (by decide)) r0)) (by decide))))) kNil))) (kCons (kLift fun F0 H0 Hn kn => (zIf (tCmp (op_eqX hr) ao_eq (nomark _) (toP (eBf call_lenX bo_len (by rfl) T.b_len (by decide +kernel) (sCons (pVar 4) sNil))) (toP eInt)) (zOne (zRaise rfl tk T.x_NoWay (by rfl))) zNil)) (kOne (kFrz 4 (kFrz 5 (kRet fun F0 H0 Hn kn => nTup (naCons (nVar 4) (naCons (nVar 5) naNil))))))))))
theorem okN_spread (T : Txt K mg ca) : CalN P w K mg base ca 15 "spread" 1 F_spread := by
  refine mk_calN (k := 14) T.d_spread sc_spread rfl (fun _ _ _ _ _ _ us hl => match us, hl with | [_], _ => rfl) (fun f cdv A outer s H E c hca tk hp hr => ?_) (fun _ _ => rfl)
  subst hca
  exact (nCons (nSet 1 sc_spread.nd (nCal (okN_begun T) tk hr (aCons (eVar 0) aNil) (by decide))) (kStart 2 1 sc_spread.nd hr (fun F0 H0 Hn kn => (eTup (aCons (eIx (toS (eVar 1)) (toP eInt)) (aCons (eTx call_tuple_of bx_tuple (by rfl) T.b_tuple (by decide +kernel) (sCons (toS (eIx (toS (eVar 1)) (toP eInt))) sNil)) aNil)))) pe_int (fun k => (kCons (kOwN 3 sc_spread.nd fun F0 H0 Hn kn => (lLst aNil)) (kCons (kOwN 4 sc_spread.nd fun F0 H0 Hn kn => (lLst aNil)) (kCons (kWhileS (b := t_spread) 1000 3 2 hp (kCons (kState 5 3 2 sc_spread.nd (by rfl) T.b_len) (kCons (kLift fun F0 H0 Hn kn => (zSet 6 sc_spread.nd (eCal (ok_what_at T) tk hr (aCons (eVar 0) (aCons (eIx (toS (eVar 5)) (toP eInt)) aNil)) (by decide)))) (kCons (kSetN 7 sc_spread.nd fun F0 H0 Hn kn => nL (lLst aNil)) (kCons (kIf (fun F0 H0 Hn kn => (tCmp (op_eqX hr) ao_eq (nomark _) (toP (eIx (toS (eVar 6)) (toP eInt))) (toP eStr))) (kOne (kSet 8 sc_spread.nd (kTup (kFirst (fun F0 H0 Hn kn => (nNo eStr)) (kFirst (fun F0 H0 Hn kn => (nNo (eIx (toS (eVar 6)) (toP eInt)))) (kLast (kCal (ok_throw_ways T) tk hr (fun F0 H0 Hn kn => (rS (eVar 0) (rK 2 (rS (eVar 5) (rS (eVar 6) r0))))) (by decide)))))))) (kOne (kIf (fun F0 H0 Hn kn => (tCmp (op_eqX hr) ao_eq (nomark _) (toP (eIx (toS (eVar 6)) (toP eInt))) (toP eStr))) (kCons (kUnp 7 9 rfl sc_spread.nd (kCal (ok_pick_ways T) tk hr (fun F0 H0 Hn kn => (rS (eVar 0) (rK 2 (rS (eVar 5) (rS (eVar 6) r0))))) (by decide)) (gT2' rfl (gsCons (gName' 7 sc_spread.nd) (gsCons (gName' 9 sc_spread.nd) gsNil)))) (kOne (kSetN 8 sc_spread.nd fun F0 H0 Hn kn => nTup (naCons (nNo eStr) (naCons (nNo (eIx (toS (eVar 6)) (toP eInt))) (naCons (nVar 9) naNil)))))) (kOne (kIf (fun F0 H0 Hn kn => (tCmp (op_eqX hr) ao_eq (nomark _) (toP (eIx (toS (eVar 6)) (toP eInt))) (toP eStr))) (kOne (kSetN 8 sc_spread.nd fun F0 H0 Hn kn => (nNo (eTup (aCons eStr (aCons (eTup (aCons (eIx (toS (eIx (toS (eVar 5)) (toP eInt))) (toP (eCal (ok_number_of T) tk hr (aCons (eVar 0) (aCons (eIx (toS (eVar 6)) (toP eInt)) aNil)) (by decide)))) (aCons eInt aNil))) aNil)))))) (kOne (kSetN 8 sc_spread.nd fun F0 H0 Hn kn => (nNo (eTup (aCons eStr (aCons (eIx (toS (eVar 6)) (toP eInt)) aNil))))))))))) (kCons (kAppN 3 fun F0 H0 Hn kn => nVar 8) (kOne (kAppN 4 fun F0 H0 Hn kn => nVar 7))))))) (by rfl) T.b_len) (kOne (kFin 3 4 2))))))))
def m__law_at : En → O := (yCons (yIf (xT (xB ltD (xVar 1) (xF lenD (xCons (xVar 0) xNil)))) (yRet (xB ixD (xVar 0) (xVar 1))) yNil) (yCons (ySet 2 (xC (.int 67))) (yCons (yIf (xT (xB gtD (xF lenD (xCons (xVar 0) xNil)) (xC (.int 0)))) (ySet 2 (xB modD (xB ixD (xVar 0) (xB modD (xB addD (xB mulD (xVar 1) (xC (.int 13))) (xC (.int 4))) (xF lenD (xCons (xVar 0) xNil)))) (xC (.int 998819)))) yNil) (yRet (xB modD (xB mulD (xB addD (xB addD (xVar 2) (xB mulD (xC (.int 79)) (xVar 1))) (xC (.int 2))) (xB addD (xB addD (xB mulD (xVar 2) (xC (.int 3))) (xB mulD (xVar 1) (xVar 1))) (xC (.int 47)))) (xC (.int 1000183)))))))
def F__law_at : List PyData → R PyData := fun ds => fin (m__law_at (env0 3 ds))
theorem ok__law_at (T : Txt K mg ca) : Cal P w K mg base ca 1 "_law_at" 2 F__law_at := by
  refine mk_cal (k := 0) T.d__law_at sc__law_at rfl (fun _ _ _ _ _ _ us hl => match us, hl with | [_, _], _ => rfl) (fun f cdv A outer s H E c hca tk hp hr => ?_) (fun _ _ => rfl)
  subst hca
  exact (zCons (zIf (tCmp op_lt ao_lt (nomark _) (toP (eVar 1)) (toP (eBf call_lenX bo_len (by rfl) T.b_len (by decide +kernel) (sCons (toS (eVar 0)) sNil)))) (zOne (zRet (eIx (toS (eVar 0)) (toP (eVar 1))))) zNil) (zCons (zSet 2 sc__law_at.nd eInt) (zCons (zIf (tCmp op_gt ao_gt (nomark _) (toP (eBf call_lenX bo_len (by rfl) T.b_len (by decide +kernel) (sCons (toS (eVar 0)) sNil))) (toP eInt)) (zOne (zSet 2 sc__law_at.nd (eMod (toP (eIx (toS (eVar 0)) (toP (eMod (toP (eAdd (toS (eMul (toP (eVar 1)) (toP eInt))) (toS eInt))) (toP (eBf call_lenX bo_len (by rfl) T.b_len (by decide +kernel) (sCons (toS (eVar 0)) sNil))))))) (toP eInt)))) zNil) (zOne (zRet (eMod (toP (eMul (toP (eAdd (toS (eAdd (toS (eVar 2)) (toS (eMul (toP eInt) (toP (eVar 1)))))) (toS eInt))) (toP (eAdd (toS (eAdd (toS (eMul (toP (eVar 2)) (toP eInt))) (toS (eMul (toP (eVar 1)) (toP (eVar 1)))))) (toS eInt))))) (toP eInt)))))))
def m__law_counts : En → O := (yCons (yOwn 1 (xLs xNil)) (yCons (yFor (xRng1 (xB addD (xC (.int 1)) (xB modD (xCl 2 F__law_at (xCons (xVar 0) (xCons (xC (.int 0)) xNil))) (xC (.int 3))))) (tgName 2) (yApp 1 (xTup (xCons (xB ixD (xL (xLs (xCons (xC (.str "turn")) (xCons (xC (.str "b")) (xCons (xC (.str "pay")) xNil))))) (xVar 2)) (xCons (xB addD (xC (.int 1)) (xB modD (xCl 2 F__law_at (xCons (xVar 0) (xCons (xB addD (xC (.int 1)) (xVar 2)) xNil))) (xC (.int 60)))) xNil))))) (yFrz 1 (yRet (xVar 1)))))
def F__law_counts : List PyData → R PyData := fun ds => fin (m__law_counts (env0 3 ds))
theorem ok__law_counts (T : Txt K mg ca) : Cal P w K mg base ca 2 "_law_counts" 1 F__law_counts := by
  refine mk_cal (k := 1) T.d__law_counts sc__law_counts rfl (fun _ _ _ _ _ _ us hl => match us, hl with | [_], _ => rfl) (fun f cdv A outer s H E c hca tk hp hr => ?_) (fun _ _ => rfl)
  subst hca
  exact (zCons (zOwn 1 sc__law_counts.nd (lLst aNil)) (zCons (zFor hp rfl (iRng1 (by rfl) T.b_range (toP (eAdd (toS eInt) (toS (eMod (toP (eCal (ok__law_at T) tk hr (aCons (eVar 0) (aCons eInt aNil)) (by decide))) (toP eInt)))))) (gName' 2 sc__law_counts.nd) (tgt_name _ 2) (zOne (zApp 1 (eTup (aCons (eIx (toS (eL (lLst (aCons eStr (aCons eStr (aCons eStr aNil)))))) (toP (eVar 2))) (aCons (eAdd (toS eInt) (toS (eMod (toP (eCal (ok__law_at T) tk hr (aCons (eVar 0) (aCons (eAdd (toS eInt) (toS (eVar 2))) aNil)) (by decide))) (toP eInt)))) aNil)))))) (zOne (zFrz 1 (zRet (eVar 1))))))
def m__law_asks : En → O := (yCons (ySet 2 (xB addD (xC (.int 1)) (xB modD (xCl 2 F__law_at (xCons (xVar 0) (xCons (xC (.int 4)) xNil))) (xC (.int 7))))) (yCons (ySet 3 (xB addD (xC (.int 1)) (xB modD (xCl 2 F__law_at (xCons (xVar 0) (xCons (xC (.int 5)) xNil))) (xC (.int 4))))) (yCons (ySet 4 (xB addD (xSl (xL (xLs (xCons (xC (.str "aa")) (xCons (xC (.str "ab")) (xCons (xC (.str "ac")) (xCons (xC (.str "ad")) (xCons (xC (.str "ae")) (xCons (xC (.str "af")) (xCons (xC (.str "ag")) xNil))))))))) xO0 (xO1 (xVar 2))) (xSl (xL (xLs (xCons (xC (.str "end")) (xCons (xC (.str "go")) (xCons (xC (.str "x")) (xCons (xC (.str "lost")) xNil)))))) xO0 (xO1 (xVar 3))))) (yCons (yOwn 5 (xLs xNil)) (yCons (yFor (xRng1 (xVar 2)) (tgName 6) (yCons (ySet 7 (xCl 2 F__law_at (xCons (xVar 0) (xCons (xB addD (xC (.int 6)) (xVar 6)) xNil)))) (yCons (ySet 8 (xSl (xVar 4) (xO1 (xB addD (xVar 6) (xC (.int 1)))) xO0)) (yCons (yUnp (tgTup [9, 10]) (xB ixD (xVar 1) (xB modD (xVar 7) (xF lenD (xCons (xVar 1) xNil))))) (yCons (ySet 11 (xB modD (xB fdivD (xVar 7) (xC (.int 3))) (xB addD (xVar 10) (xC (.int 3))))) (yCons (ySet 12 (xB ixD (xVar 8) (xB modD (xB fdivD (xVar 7) (xC (.int 200))) (xF lenD (xCons (xVar 8) xNil))))) (yApp 5 (xTup (xCons (xB ixD (xVar 4) (xVar 6)) (xCons (xTup (xCons (xC (.str "ask")) (xCons (xVar 9) (xCons (xVar 11) (xCons (xVar 12) (xCons (xB ixD (xVar 8) (xB modD (xB fdivD (xVar 7) (xC (.int 1000))) (xF lenD (xCons (xVar 8) xNil)))) xNil)))))) xNil)))))))))) (yCons (yFor (xRng1 (xVar 3)) (tgName 6) (yCons (ySet 13 (xTup (xCons (xC (.str "end")) (xCons (xTup (xCons (xB modD (xCl 2 F__law_at (xCons (xVar 0) (xCons (xB addD (xC (.int 13)) (xVar 6)) xNil))) (xC (.int 100))) (xCons (xC (.int 1)) xNil))) xNil)))) (yCons (yIf (xT (xB eqD (xB modD (xB fdivD (xCl 2 F__law_at (xCons (xVar 0) (xCons (xB addD (xC (.int 13)) (xVar 6)) xNil))) (xC (.int 100))) (xC (.int 2))) (xC (.int 1)))) (ySet 13 (xTup (xCons (xC (.str "score")) (xCons (xB ixD (xB ixD (xVar 1) (xB modD (xB fdivD (xCl 2 F__law_at (xCons (xVar 0) (xCons (xB addD (xC (.int 13)) (xVar 6)) xNil))) (xC (.int 200))) (xF lenD (xCons (xVar 1) xNil)))) (xC (.int 0))) xNil)))) yNil) (yApp 5 (xTup (xCons (xB ixD (xVar 4) (xB addD (xVar 2) (xVar 6))) (xCons (xVar 13) xNil))))))) (yFrz 5 (yRet (xVar 5)))))))))
def F__law_asks : List PyData → R PyData := fun ds => fin (m__law_asks (env0 14 ds))
theorem ok__law_asks (T : Txt K mg ca) : Cal P w K mg base ca 2 "_law_asks" 2 F__law_asks := by
  refine mk_cal (k := 1) T.d__law_asks sc__law_asks rfl (fun _ _ _ _ _ _ us hl => match us, hl with | [_, _], _ => rfl) (fun f cdv A outer s H E c hca tk hp hr => ?_) (fun _ _ => rfl)
  subst hca
  exact (zCons (zSet 2 sc__law_asks.nd (eAdd (toS eInt) (toS (eMod (toP (eCal (ok__law_at T) tk hr (aCons (eVar 0) (aCons eInt aNil)) (by decide))) (toP eInt))))) (zCons (zSet 3 sc__law_asks.nd (eAdd (toS eInt) (toS (eMod (toP (eCal (ok__law_at T) tk hr (aCons (eVar 0) (aCons eInt aNil)) (by decide))) (toP eInt))))) (zCons (zSet 4 sc__law_asks.nd (eAdd (toS (eSl (toS (eL (lLst (aCons eStr (aCons eStr (aCons eStr (aCons eStr (aCons eStr (aCons eStr (aCons eStr aNil)))))))))) o0 (o1 (toP (eVar 2))))) (toS (eSl (toS (eL (lLst (aCons eStr (aCons eStr (aCons eStr (aCons eStr aNil))))))) o0 (o1 (toP (eVar 3))))))) (zCons (zOwn 5 sc__law_asks.nd (lLst aNil)) (zCons (zFor hp rfl (iRng1 (by rfl) T.b_range (toP (eVar 2))) (gName' 6 sc__law_asks.nd) (tgt_name _ 6) (zCons (zSet 7 sc__law_asks.nd (eCal (ok__law_at T) tk hr (aCons (eVar 0) (aCons (eAdd (toS eInt) (toS (eVar 6))) aNil)) (by decide))) (zCons (zSet 8 sc__law_asks.nd (eSl (toS (eVar 4)) (o1 (toP (eAdd (toS (eVar 6)) (toS eInt)))) o0)) (zCons (zUnp (eIx (toS (eVar 1)) (toP (eMod (toP (eVar 7)) (toP (eBf call_lenX bo_len (by rfl) T.b_len (by decide +kernel) (sCons (toS (eVar 1)) sNil)))))) (gT2' rfl (gsCons (gName' 9 sc__law_asks.nd) (gsCons (gName' 10 sc__law_asks.nd) gsNil))) (tgt_tup _ [9, 10] rfl)) (zCons (zSet 11 sc__law_asks.nd (eMod (toP (eDiv (toP (eVar 7)) (toP eInt))) (toP (eAdd (toS (eVar 10)) (toS eInt))))) (zCons (zSet 12 sc__law_asks.nd (eIx (toS (eVar 8)) (toP (eMod (toP (eDiv (toP (eVar 7)) (toP eInt))) (toP (eBf call_lenX bo_len (by rfl) T.b_len (by decide +kernel) (sCons (toS (eVar 8)) sNil))))))) (zOne (zApp 5 (eTup (aCons (eIx (toS (eVar 4)) (toP (eVar 6))) (aCons (eTup (aCons eStr (aCons (eVar 9) (aCons (eVar 11) (aCons (eVar 12) (aCons (eIx (toS (eVar 8)) (toP (eMod (toP (eDiv (toP (eVar 7)) (toP eInt))) (toP (eBf call_lenX bo_len (by rfl) T.b_len (by decide +kernel) (sCons (toS (eVar 8)) sNil)))))) aNil)))))) aNil))))))))))) (zCons (zFor hp rfl (iRng1 (by rfl) T.b_range (toP (eVar 3))) (gName' 6 sc__law_asks.nd) (tgt_name _ 6) (zCons (zSet 13 sc__law_asks.nd (eTup (aCons eStr (aCons (eTup (aCons (eMod (toP (eCal (ok__law_at T) tk hr (aCons (eVar 0) (aCons (eAdd (toS eInt) (toS (eVar 6))) aNil)) (by decide))) (toP eInt)) (aCons eInt aNil))) aNil)))) (zCons (zIf (tCmp (op_eqX hr) ao_eq (nomark _) (toP (eMod (toP (eDiv (toP (eCal (ok__law_at T) tk hr (aCons (eVar 0) (aCons (eAdd (toS eInt) (toS (eVar 6))) aNil)) (by decide))) (toP eInt))) (toP eInt))) (toP eInt)) (zOne (zSet 13 sc__law_asks.nd (eTup (aCons eStr (aCons (eIx (toS (eIx (toS (eVar 1)) (toP (eMod (toP (eDiv (toP (eCal (ok__law_at T) tk hr (aCons (eVar 0) (aCons (eAdd (toS eInt) (toS (eVar 6))) aNil)) (by decide))) (toP eInt))) (toP (eBf call_lenX bo_len (by rfl) T.b_len (by decide +kernel) (sCons (toS (eVar 1)) sNil))))))) (toP eInt)) aNil))))) zNil) (zOne (zApp 5 (eTup (aCons (eIx (toS (eVar 4)) (toP (eAdd (toS (eVar 2)) (toS (eVar 6))))) (aCons (eVar 13) aNil)))))))) (zOne (zFrz 5 (zRet (eVar 5))))))))))
def m__law_led : En → O := (yCons (ySet 3 (xC (.int 0))) (yCons (yWhile 1000000 (xT (xB eqD (xB ixD (xB ixD (xB ixD (xVar 0) (xVar 3)) (xC (.int 1))) (xC (.int 0))) (xC (.str "ask")))) (yCons (yUnp (tgTup [4, 5, 6, 7, 8]) (xB ixD (xB ixD (xVar 0) (xVar 3)) (xC (.int 1)))) (yCons (ySet 9 (xVar 8)) (yCons (yFor (xRng1 (xF lenD (xCons (xVar 1) xNil))) (tgName 10) (yIf (xAndT (xT (xB eqD (xB ixD (xB ixD (xVar 1) (xVar 10)) (xC (.int 0))) (xVar 5))) (xT (xB geD (xB ixD (xVar 2) (xVar 10)) (xVar 6)))) (ySet 9 (xVar 7)) yNil)) (ySet 3 (xLM lindexD (xL (xComp [11] (xItems (xVar 0)) (tgName 11) xYes (xB ixD (xVar 11) (xC (.int 0))))) (xVar 9))))))) (yRet (xB ixD (xVar 0) (xVar 3)))))
def F__law_led : List PyData → R PyData := fun ds => fin (m__law_led (env0 12 ds))
theorem ok__law_led (T : Txt K mg ca) : Cal P w K mg base ca 1 "_law_led" 3 F__law_led := by
  refine mk_cal (k := 0) T.d__law_led sc__law_led rfl (fun _ _ _ _ _ _ us hl => match us, hl with | [_, _, _], _ => rfl) (fun f cdv A outer s H E c hca tk hp hr => ?_) (fun _ _ => rfl)
  subst hca
  exact (zCons (zSet 3 sc__law_led.nd eInt) (zCons (zWhile 1000000 hp (tCmp (op_eqX hr) ao_eq (nomark _) (toP (eIx (toS (eIx (toS (eIx (toS (eVar 0)) (toP (eVar 3)))) (toP eInt))) (toP eInt))) (toP eStr)) (zCons (zUnp (eIx (toS (eIx (toS (eVar 0)) (toP (eVar 3)))) (toP eInt)) (gT2' rfl (gsCons (gName' 4 sc__law_led.nd) (gsCons (gName' 5 sc__law_led.nd) (gsCons (gName' 6 sc__law_led.nd) (gsCons (gName' 7 sc__law_led.nd) (gsCons (gName' 8 sc__law_led.nd) gsNil)))))) (tgt_tup _ [4, 5, 6, 7, 8] rfl)) (zCons (zSet 9 sc__law_led.nd (eVar 8)) (zCons (zFor hp rfl (iRng1 (by rfl) T.b_range (toP (eBf call_lenX bo_len (by rfl) T.b_len (by decide +kernel) (sCons (toS (eVar 1)) sNil)))) (gName' 10 sc__law_led.nd) (tgt_name _ 10) (zOne (zIf (tW (wAnd (tCmp (op_eqX hr) ao_eq (nomark _) (toP (eIx (toS (eIx (toS (eVar 1)) (toP (eVar 10)))) (toP eInt))) (toP (eVar 5))) (wAnd1 (tCmp op_ge ao_ge (nomark _) (toP (eIx (toS (eVar 2)) (toP (eVar 10)))) (toP (eVar 6)))))) (zOne (zSet 9 sc__law_led.nd (eVar 7))) zNil))) (zOne (zSet 3 sc__law_led.nd (eLindex hr (toS (eL (lComp rfl sc__law_led.nd (iItems (eVar 0)) (blkOk_by (own := [("_law_place", 11)]) (show blkC ["_law_places", "_law_counts_here", "_law_numbers", "_law_at_here", "_law_word", "_law_name", "_law_number", "_law_one", "_law_other", "_law_goal", "_law_k", "_law_place"] (defScope s__law_led) _ _ = true by decide +kernel)) rfl (tgt_name _ 11) (fun _ _ _ _ _ => (gName' 11 sc__law_led.nd)) (fun _ _ _ _ _ => ts0) (fun _ _ _ _ _ => (eIx (toS (eVar 11)) (toP eInt)))).1)) (toP (eVar 9))))))))) (zOne (zRet (eIx (toS (eVar 0)) (toP (eVar 3)))))))
def m__law_end : En → O := (yCons (yIf (xT (xB eqD (xB ixD (xB ixD (xVar 0) (xC (.int 1))) (xC (.int 0))) (xC (.str "end")))) (yRet (xB ixD (xVar 0) (xC (.int 1)))) yNil) (yRet (xTup (xCons (xC (.str "end")) (xCons (xTup (xCons (xB ixD (xVar 2) (xLM lindexD (xL (xComp [3, 4] (xItems (xVar 1)) (tgTup [3, 4]) xYes (xVar 3))) (xB ixD (xB ixD (xVar 0) (xC (.int 1))) (xC (.int 1))))) (xCons (xC (.int 1)) xNil))) xNil)))))
def F__law_end : List PyData → R PyData := fun ds => fin (m__law_end (env0 5 ds))
theorem ok__law_end (T : Txt K mg ca) : Cal P w K mg base ca 1 "_law_end" 3 F__law_end := by
  refine mk_cal (k := 0) T.d__law_end sc__law_end rfl (fun _ _ _ _ _ _ us hl => match us, hl with | [_, _, _], _ => rfl) (fun f cdv A outer s H E c hca tk hp hr => ?_) (fun _ _ => rfl)
  subst hca
  exact (zCons (zIf (tCmp (op_eqX hr) ao_eq (nomark _) (toP (eIx (toS (eIx (toS (eVar 0)) (toP eInt))) (toP eInt))) (toP eStr)) (zOne (zRet (eIx (toS (eVar 0)) (toP eInt)))) zNil) (zOne (zRet (eTup (aCons eStr (aCons (eTup (aCons (eIx (toS (eVar 2)) (toP (eLindex hr (toS (eL (lComp rfl sc__law_end.nd (iItems (eVar 1)) (blkOk_by (own := [("_law_name", 3), ("_law_most", 4)]) (show blkC ["_law_place", "_law_counts_here", "_law_numbers", "_law_name", "_law_most"] (defScope s__law_end) _ _ = true by decide +kernel)) rfl (tgt_tup _ [3, 4] rfl) (fun _ _ _ _ _ => (gT2' rfl (gsCons (gName' 3 sc__law_end.nd) (gsCons (gName' 4 sc__law_end.nd) gsNil)))) (fun _ _ _ _ _ => ts0) (fun _ _ _ _ _ => (eVar 3))).1)) (toP (eIx (toS (eIx (toS (eVar 0)) (toP eInt))) (toP eInt)))))) (aCons eInt aNil))) aNil))))))
def m__law_told : En → O := (yCons (yIf (xOrT (xNotT (xT (xIsi "tuple" (xVar 0)))) (xOrT (xT (xB neD (xF lenD (xCons (xVar 0) xNil)) (xC (.int 3)))) (xT (xB neD (xVar 0) (xVar 1))))) (yRet (xC (.bool false))) yNil) (yCons (yFor (xItems (xVar 0)) (tgName 2) (yIf (xOrT (xNotT (xT (xIsi "list" (xVar 2)))) (xT (xB neD (xF lenD (xCons (xVar 2) xNil)) (xF lenD (xCons (xB ixD (xVar 0) (xC (.int 0))) xNil))))) (yRet (xC (.bool false))) yNil)) (yCons (yFor (xItems (xB ixD (xVar 0) (xC (.int 1)))) (tgTup [3, 4]) (yIf (xOrT (xNotT (xT (xIsi "list" (xVar 4)))) (xT (xB inD (xC (.bool true)) (xL (xComp [5] (xItems (xVar 4)) (tgName 5) xYes (xIsi "bool" (xVar 5))))))) (yRet (xC (.bool false))) yNil)) (yRet (xC (.bool true))))))
def F__law_told : List PyData → R PyData := fun ds => fin (m__law_told (env0 6 ds))
theorem ok__law_told (T : Txt K mg ca) : Cal P w K mg base ca 1 "_law_told" 2 F__law_told := by
  refine mk_cal (k := 0) T.d__law_told sc__law_told rfl (fun _ _ _ _ _ _ us hl => match us, hl with | [_, _], _ => rfl) (fun f cdv A outer s H E c hca tk hp hr => ?_) (fun _ _ => rfl)
  subst hca
  exact (zCons (zIf (tW (wOr (tNot' (tVal (eIsi (by rfl) T.b_isinstance (by rfl) T.b_tuple (by decide +kernel) (toP (eVar 0))))) (wOr (tCmp (op_neX hr) ao_ne (nomark _) (toP (eBf call_lenX bo_len (by rfl) T.b_len (by decide +kernel) (sCons (toS (eVar 0)) sNil))) (toP eInt)) (wOr1 (tCmp (op_neX hr) ao_ne (nomark _) (toP (eVar 0)) (toP (eVar 1))))))) (zOne (zRet eBl)) zNil) (zCons (zFor hp rfl (iItems (eVar 0)) (gName' 2 sc__law_told.nd) (tgt_name _ 2) (zOne (zIf (tW (wOr (tNot' (tVal (eIsi (by rfl) T.b_isinstance (by rfl) T.b_list (by decide +kernel) (toP (eVar 2))))) (wOr1 (tCmp (op_neX hr) ao_ne (nomark _) (toP (eBf call_lenX bo_len (by rfl) T.b_len (by decide +kernel) (sCons (toS (eVar 2)) sNil))) (toP (eBf call_lenX bo_len (by rfl) T.b_len (by decide +kernel) (sCons (toS (eIx (toS (eVar 0)) (toP eInt))) sNil))))))) (zOne (zRet eBl)) zNil))) (zCons (zFor hp rfl (iItems (eIx (toS (eVar 0)) (toP eInt))) (gT2' rfl (gsCons (gName' 3 sc__law_told.nd) (gsCons (gName' 4 sc__law_told.nd) gsNil))) (tgt_tup _ [3, 4] rfl) (zOne (zIf (tW (wOr (tNot' (tVal (eIsi (by rfl) T.b_isinstance (by rfl) T.b_list (by decide +kernel) (toP (eVar 4))))) (wOr1 (tCmp (op_inX hr) ao_in (by rfl) (toP eBl) (toP (eL (lComp rfl sc__law_told.nd (iItems (eVar 4)) (blkOk_by (own := [("_law_one", 5)]) (show blkC ["_law_found", "_law_due", "_law_part", "_law_name", "_law_numbers", "_law_one"] (defScope s__law_told) _ _ = true by decide +kernel)) rfl (tgt_name _ 5) (fun _ _ _ _ _ => (gName' 5 sc__law_told.nd)) (fun _ _ _ _ _ => ts0) (fun _ _ _ _ _ => (eIsi (by rfl) T.b_isinstance (by rfl) T.b_bool (by decide +kernel) (toP (eVar 5))))).1)))))) (zOne (zRet eBl)) zNil))) (zOne (zRet eBl)))))
/-- the end of the law: the board and the states that were found change -/
def yTail (sp : En → R PyData) (t : En → R Bool) (lst : En → R PyData) : En → O := fun ρ => if ρ.all bareS = true ∧ ρ.length = 17 then (match sp ρ with
  | .ok d => (match t (ρ.set 16 (.nw d)) with
    | .ok z => if z = true then .rt (.bool false) else (match d with
      | .tuple [.list bs, .list [_, .tuple [_, .list ns]], _] => if ns.length < sizeLine then (match lst (ρ.set 16 .un) with | .ok r => .rt r | _ => .bad) else .bad
      | _ => .bad)
    | _ => .bad)
  | _ => .bad) else .bad
/-- what is known when both lists change -/
def Due (K : Fg) (c : Cc) (D : Ends) (lst : En → R PyData) (σ : St) (v : V) (H2 : Hp) : Prop := ∃ (tt pb ps pt pn : Addr) (xs ns : List V) (u w y : V), v = .ref tt ∧ SqT K H2 tt [.ref pb, .ref ps, w] ∧ SqL K H2 ps [u, .ref pt] ∧ SqT K H2 pt [y, .ref pn] ∧ H2 pn = some (.lst ns) ∧ ns.length < sizeLine ∧ H2 pb = some (.lst xs) ∧ (σ.set 16 (some v))[16]? = some (some v) ∧
  ∃ F0 H0 Hn kn, tE K (cAt c F0 H0 Hn kn) lst (σ.set 16 (some v)) (upd (upd H2 pn (.lst (ns ++ [.int 7]))) pb (.lst [])) D.rt
theorem tail_ok {K : Fg} {c : Cc} {F H : Hp} {ρ : En} {σ : St} {D : Ends} {sp lst : En → R PyData} {t : En → R Bool} (r : Rl K c F H ρ σ) (q : Oo K c F D (yTail sp t lst ρ)) (Z : V → Hp → Prop) (hZ : ∀ v H2, Due K c D lst σ v H2 → Z v H2) :
    ∃ F0 H0 Hn kn, tN K (cAt c F0 H0 Hn kn) sp σ H fun v H1 => ∃ F0 H0 Hn kn, tT K (cAt c F0 H0 Hn kn) t (σ.set 16 (some v)) H1 fun z H2 => if z = true then D.rt (.bl false) H2 else Z v H2 := by
  unfold yTail at q
  split at q
  · rename_i hb
    obtain ⟨hb, h17⟩ := hb
    have r0 : Rl K (cAt c F H H .non) F H ρ σ := rl_bare r hb (Same.refl F) (Ext.refl r.s)
    refine ⟨F, H, H, .non, F, ρ, Same.refl H, r0, ?_⟩
    split at q
    · rename_i d hsp
      refine Eq.mpr (congrArg (fun y => Po _ _ _ _ y _) hsp) ?_
      intro F1 H1 x1 v rv
      have r1 : Rl K (cAt c F1 H1 H .non) F1 H1 (ρ.set 16 (.nw d)) (σ.set 16 (some v)) := (rl_bare r hb x1.f (Ext.refl x1.s)).set ⟨v, rfl, rv⟩ (fun z => nomatch z)
      refine ⟨F1, H1, H, .non, F1, _, r1, ?_⟩
      split at q
      · rename_i z ht
        refine Eq.mpr (congrArg (fun y => Po _ _ _ _ y _) ht) ?_
        intro F2 H2 x2
        have x12 : Ext F H F2 H2 := x1.trans x2
        show if z = true then D.rt (.bl false) H2 else Z v H2
        by_cases hz : z = true
        · rw [if_pos hz] at q
          rw [if_pos hz]
          exact q F2 H2 _ (r.e.trans x12) (.bl false)
        · rw [if_neg hz] at q
          rw [if_neg hz]
          split at q
          · rename_i bs s0 y0 ns0 w0
            split at q
            · rename_i hsz
              cases rv with
              | tup h1 h2 =>
              rename_i tt vs
              cases h2 with
              | cons rb h2 =>
              cases h2 with
              | cons rs h2 =>
              cases h2 with
              | cons rw' h2 =>
              cases h2
              cases rb with
              | lst hb1 nb rb =>
              rename_i pb vbs
              cases rs with
              | lst hs1 ns1 rs =>
              rename_i ps vss
              cases rs with
              | cons ru rs =>
              cases rs with
              | cons rt rs =>
              cases rs
              cases rt with
              | tup ht1 ht2 =>
              rename_i pt vts
              cases ht2 with
              | cons ry ht2 =>
              cases ht2 with
              | cons rn ht2 =>
              cases ht2
              cases rn with
              | lst hn1 nn1 rn =>
              rename_i pn vns
              have s12 : Same F1 H2 := x2.f.trans x2.s
              refine hZ _ _ ⟨tt, pb, ps, pt, pn, vbs, vns, _, _, _, rfl, sqT_same s12 h1, s12.seq (.of hs1), sqT_same s12 ht1, s12 _ _ hn1, by rw [rn.len]; exact hsz, s12 _ _ hb1, by rw [List.getElem?_set_self (by rw [← r.len, h17]; decide)], ?_⟩
              have hp1 : H pn = none := nn1
              have hp2 : H pb = none := nb
              have sF : Same F (upd (upd H2 pn (.lst (vns ++ [.int 7]))) pb (.lst [])) := same_upd r.s (same_upd r.s (x12.f.trans x12.s) hp1) hp2
              have sH : Same H (upd (upd H2 pn (.lst (vns ++ [.int 7]))) pb (.lst [])) := same_upd (Same.refl H) (same_upd (Same.refl H) x12.h hp1) hp2
              split at q
              · rename_i res hl
                refine ⟨F, _, H, .non, F, _, rl_skip (rl_bare (c' := cAt c F (upd (upd H2 pn (.lst (vns ++ [.int 7]))) pb (.lst [])) H .non) r hb (Same.refl F) (Ext.refl sF)) 16 (some (.ref tt)), ?_⟩
                refine Eq.mpr (congrArg (fun y => Po _ _ _ _ y _) hl) ?_
                intro F5 H5 x5 u' ru'
                exact q F5 H5 u' ⟨r.e.f.trans x5.f, r.e.h.trans (sH.trans x5.h), x5.s, fun p o e => by
                  rcases x5.n p o e with y | y
                  · exact r.e.n p o y
                  · exact Or.inr (r.e.h.free (sH.free y))⟩ ru'
              · exact q.elim
            · exact q.elim
          · exact q.elim
      · exact q.elim
    · exact q.elim
  · exact q.elim
def m_law : En → O := (yCons (ySet 1 (xCl 1 F__law_counts (xCons (xVar 0) xNil))) (yCons (ySet 2 (xCl 2 F__law_asks (xCons (xVar 0) (xCons (xVar 1) xNil)))) (yCons (ySet 3 (xL (xComp [4] (xItems (xVar 1)) (tgName 4) xYes (xC (.int 0))))) (yCons (ySet 5 (xCl 3 F__law_led (xCons (xVar 2) (xCons (xVar 1) (xCons (xVar 3) xNil))))) (yCons (ySet 6 (xTup (xCons (xL (xLs (xCons (xCl 3 F__law_end (xCons (xVar 5) (xCons (xVar 1) (xCons (xVar 3) xNil)))) xNil))) (xCons (xL (xLs (xCons (xTup (xCons (xB ixD (xVar 5) (xC (.int 0))) (xCons (xVar 3) xNil))) xNil))) (xCons (xL (xLs (xCons (xL (xLs xNil)) xNil))) xNil))))) (yCons (ySet 7 (xTup (xCons (xL (xFL listD (xCons (xVar 1) xNil))) (xCons (xL (xFL listD (xCons (xVar 2) xNil))) xNil)))) (yCons (yIf (xOrT (xNotT (xT (xCl 2 F__law_told (xCons (xCl 1 F_spread (xCons (xVar 7) xNil)) (xCons (xVar 6) xNil))))) (xT (xB neD (xVar 7) (xTup (xCons (xVar 1) (xCons (xVar 2) xNil)))))) (yRet (xC (.bool false))) yNil) (yCons (yOwn 8 (xLs xNil)) (yCons (yOwn 9 (xLs xNil)) (yCons (yFor (xRng1 (xF lenD (xCons (xVar 1) xNil))) (tgName 10) (yCons (ySet 11 (xB modD (xCl 2 F__law_at (xCons (xVar 0) (xCons (xB addD (xC (.int 18)) (xVar 10)) xNil))) (xC (.int 70)))) (yCons (yApp 8 (xTup (xCons (xC (.str "set")) (xCons (xB ixD (xB ixD (xVar 1) (xVar 10)) (xC (.int 0))) (xCons (xVar 11) xNil))))) (yApp 9 (xF minD (xCons (xVar 11) (xCons (xB ixD (xB ixD (xVar 1) (xVar 10)) (xC (.int 1))) xNil))))))) (yCons (ySet 12 (xB addD (xC (.int 1)) (xB modD (xCl 2 F__law_at (xCons (xVar 0) (xCons (xC (.int 22)) xNil))) (xC (.int 2))))) (yCons (yFrz 9 (ySet 13 (xCl 3 F__law_led (xCons (xVar 2) (xCons (xVar 1) (xCons (xVar 9) xNil)))))) (yCons (yFrz 8 (ySet 14 (xTup (xCons (xVar 1) (xCons (xB addD (xL (xLs (xCons (xTup (xCons (xC (.str "pick")) (xCons (xTup (xCons (xC (.str "pick")) (xCons (xVar 12) (xCons (xL (xLs (xCons (xTup (xCons (xC (.str "roll")) (xCons (xC .none) (xCons (xVar 8) (xCons (xC (.str "aa")) xNil))))) xNil))) xNil)))) xNil))) xNil))) (xVar 2)) xNil))))) (yCons (yFrz 9 (ySet 15 (xL (xLs (xCons (xTup (xCons (xC (.str "pick")) (xCons (xVar 3) xNil))) (xCons (xTup (xCons (xB ixD (xVar 13) (xC (.int 0))) (xCons (xVar 9) xNil))) xNil)))))) (yCons (yFrz 9 (ySet 6 (xTup (xCons (xL (xLs (xCons (xTup (xCons (xC (.str "pick")) (xCons (xVar 12) (xCons (xL (xLs (xCons (xC (.int 1)) xNil))) xNil)))) (xCons (xCl 3 F__law_end (xCons (xVar 13) (xCons (xVar 1) (xCons (xVar 9) xNil)))) xNil)))) (xCons (xVar 15) (xCons (xL (xLs (xCons (xL (xLs (xCons (xC (.str "roll")) xNil))) (xCons (xL (xLs xNil)) xNil)))) xNil)))))) (yTail (xCl 1 F_spread (xCons (xVar 14) xNil)) (xNotT (xT (xCl 2 F__law_told (xCons (xVar 16) (xCons (xVar 6) xNil))))) (xCl 2 F__law_told (xCons (xCl 1 F_spread (xCons (xVar 14) xNil)) (xCons (xVar 6) xNil)))))))))))))))))))
def F_law : List PyData → R PyData := fun ds => fin (m_law (env0 17 ds))
theorem fn_law (T : Txt K mg ca) : LawFn P w K mg ca 16 F_law := by
  refine mk_law (k := 15) T.d_law sc_law (fun _ _ _ _ _ _ _ => rfl) (fun base f cdv A outer s H E c hca tk hp hr => ?_) (fun _ _ => rfl)
  subst hca
  exact (zCons (zSet 1 sc_law.nd (eCal (ok__law_counts T) tk hr (aCons (eVar 0) aNil) (by decide))) (zCons (zSet 2 sc_law.nd (eCal (ok__law_asks T) tk hr (aCons (eVar 0) (aCons (eVar 1) aNil)) (by decide))) (zCons (zSetC 3 rfl sc_law.nd (lComp rfl sc_law.nd (iItems (eVar 1)) (blkOk_by (own := [("_law_count", 4)]) (show blkC ["_law_script", "_law_counts_here", "_law_places", "_law_noughts", "_law_count", "_law_first", "_law_due", "_law_handed", "_law_deeds", "_law_numbers", "_law_k", "_law_number", "_law_who", "_law_last", "_law_game", "_law_states", "_law_found"] (defScope s_law) _ _ = true by decide +kernel)) rfl (tgt_name _ 4) (fun _ _ _ _ _ => (gName' 4 sc_law.nd)) (fun _ _ _ _ _ => ts0) (fun _ _ _ _ _ => eInt)) (iItems (eVar 1)) (blkOk_by (own := [("_law_count", 4)]) (show blkC ["_law_script", "_law_counts_here", "_law_places", "_law_noughts", "_law_count", "_law_first", "_law_due", "_law_handed", "_law_deeds", "_law_numbers", "_law_k", "_law_number", "_law_who", "_law_last", "_law_game", "_law_states", "_law_found"] (defScope s_law) _ _ = true by decide +kernel)) (fun _ _ _ _ _ => (gName' 4 sc_law.nd)) (fun _ _ _ _ _ => ts0) (fun _ _ _ _ _ => eInt) (sw_true rfl rfl rfl (by decide +kernel))) (zCons (zSet 5 sc_law.nd (eCal (ok__law_led T) tk hr (aCons (eVar 2) (aCons (eVar 1) (aCons (eVar 3) aNil))) (by decide))) (zCons (zSet 6 sc_law.nd (eTup (aCons (eL (lLst (aCons (eCal (ok__law_end T) tk hr (aCons (eVar 5) (aCons (eVar 1) (aCons (eVar 3) aNil))) (by decide)) aNil))) (aCons (eL (lLst (aCons (eTup (aCons (eIx (toS (eVar 5)) (toP eInt)) (aCons (eVar 3) aNil))) aNil))) (aCons (eL (lLst (aCons (eL (lLst aNil)) aNil))) aNil))))) (zCons (zSet 7 sc_law.nd (eTup (aCons (eL (lTf call_list_of bl_list (by rfl) T.b_list (by decide +kernel) (sCons (toS (eVar 1)) sNil))) (aCons (eL (lTf call_list_of bl_list (by rfl) T.b_list (by decide +kernel) (sCons (toS (eVar 2)) sNil))) aNil)))) (zCons (zIf (tW (wOr (tNot' (tVal (eCal (ok__law_told T) tk hr (aCons (eCalN (okN_spread T) tk hr (aCons (eVar 7) aNil) (by decide)) (aCons (eVar 6) aNil)) (by decide)))) (wOr1 (tCmp (op_neX hr) ao_ne (nomark _) (toP (eVar 7)) (toP (eTup (aCons (eVar 1) (aCons (eVar 2) aNil)))))))) (zOne (zRet eBl)) zNil) (zCons (zOwn 8 sc_law.nd (lLst aNil)) (zCons (zOwn 9 sc_law.nd (lLst aNil)) (zCons (zFor hp rfl (iRng1 (by rfl) T.b_range (toP (eBf call_lenX bo_len (by rfl) T.b_len (by decide +kernel) (sCons (toS (eVar 1)) sNil)))) (gName' 10 sc_law.nd) (tgt_name _ 10) (zCons (zSet 11 sc_law.nd (eMod (toP (eCal (ok__law_at T) tk hr (aCons (eVar 0) (aCons (eAdd (toS eInt) (toS (eVar 10))) aNil)) (by decide))) (toP eInt))) (zCons (zApp 8 (eTup (aCons eStr (aCons (eIx (toS (eIx (toS (eVar 1)) (toP (eVar 10)))) (toP eInt)) (aCons (eVar 11) aNil))))) (zOne (zApp 9 (eBf (call_min2 rfl) bo_min (by rfl) T.b_min (by decide +kernel) (sCons (toS (eVar 11)) (sCons (toS (eIx (toS (eIx (toS (eVar 1)) (toP (eVar 10)))) (toP eInt))) sNil)))))))) (zCons (zSet 12 sc_law.nd (eAdd (toS eInt) (toS (eMod (toP (eCal (ok__law_at T) tk hr (aCons (eVar 0) (aCons eInt aNil)) (by decide))) (toP eInt))))) (zCons (zFrz 9 (zSet 13 sc_law.nd (eCal (ok__law_led T) tk hr (aCons (eVar 2) (aCons (eVar 1) (aCons (eVar 9) aNil))) (by decide)))) (zCons (zFrz 8 (zSet 14 sc_law.nd (eTup (aCons (eVar 1) (aCons (eAdd (toS (eL (lLst (aCons (eTup (aCons eStr (aCons (eTup (aCons eStr (aCons (eVar 12) (aCons (eL (lLst (aCons (eTup (aCons eStr (aCons eNon (aCons (eVar 8) (aCons eStr aNil))))) aNil))) aNil)))) aNil))) aNil)))) (toS (eVar 2))) aNil))))) (zCons (zFrz 9 (zSet 15 sc_law.nd (eL (lLst (aCons (eTup (aCons eStr (aCons (eVar 3) aNil))) (aCons (eTup (aCons (eIx (toS (eVar 13)) (toP eInt)) (aCons (eVar 9) aNil))) aNil)))))) (zCons (zFrz 9 (zSet 6 sc_law.nd (eTup (aCons (eL (lLst (aCons (eTup (aCons eStr (aCons (eVar 12) (aCons (eL (lLst (aCons eInt aNil))) aNil)))) (aCons (eCal (ok__law_end T) tk hr (aCons (eVar 13) (aCons (eVar 1) (aCons (eVar 9) aNil))) (by decide)) aNil)))) (aCons (eVar 15) (aCons (eL (lLst (aCons (eL (lLst (aCons eStr aNil))) (aCons (eL (lLst aNil)) aNil)))) aNil)))))) (pss_imp (pss_cons (ps_set (i := 16) sc_law.nd rfl (Or.inl rfl) (pe_any fun F0 H0 Hn kn => nCal (c := cAt c F0 H0 Hn kn) (okN_spread T) tk hr (aCons (eVar 14) aNil) (by decide)))
    (pss_cons (ps_if (pt_any fun F0 H0 Hn kn => tNot' (tVal (eCal (c := cAt c F0 H0 Hn kn) (ok__law_told T) tk hr (aCons (eVar 16) (aCons (eVar 6) aNil)) (by decide)))) (pss_one (ps_ret pe_bl)) pss_nil)
    (pss_cons (ps_expr (pe_bm PySem.F.plainAttrs_list PySem.F.slot_list_append PySem.F.type_list_append mt_append (pe_ix ix_seq (pe_ix ix_seq (pe_ix ix_seq (pe_var (i := 16) rfl (Or.inl rfl)) pe_int (by exact fun _ _ => rfl)) pe_int (by exact fun _ _ => rfl)) pe_int (by exact fun _ _ => rfl)) (pa_cons pe_int pa_nil)))
    (pss_cons (ps_expr (pe_bm0 PySem.F.plainAttrs_list PySem.F.slot_list_clear PySem.F.type_list_clear mt_clear (pe_ix ix_seq (pe_var (i := 16) rfl (Or.inl rfl)) pe_int (by exact fun _ _ => rfl))))
    (pss_one (ps_ret (pe_any fun F0 H0 Hn kn => eCal (c := cAt c F0 H0 Hn kn) (ok__law_told T) tk hr (aCons (eCalN (okN_spread T) tk hr (aCons (eVar 14) aNil) (by decide)) (aCons (eVar 6) aNil)) (by decide))))))))
  (fun D σ H ⟨F, ρ, r, q⟩ => tail_ok r q _ fun v H2 ⟨tt, pb, ps, pt, pn, xs, ns, u, w, y, e, h1, h2, h3, h4, hz, h5, hv, h6⟩ => by
    subst e
    obtain ⟨zs, hz5⟩ : ∃ zs, (upd H2 pn (.lst (ns ++ [V.int 7]))) pb = some (.lst zs) := by
      by_cases z : pb = pn
      · subst z; exact ⟨_, upd_same⟩
      · exact ⟨xs, by rw [upd_ne z]; exact h5⟩
    exact ⟨.ref tt, hv, Or.inr (Or.inl ⟨tt, _, 1, .ref ps, rfl, rfl, h1, rfl, Or.inl ⟨ps, _, 1, .ref pt, rfl, rfl, h2, rfl, Or.inr (Or.inl ⟨pt, _, 1, .ref pn, rfl, rfl, h3, rfl, Or.inl ⟨rfl, ns, .of h4⟩, pn, ns, .int 7, rfl, rfl, h4, hz,
      .ref tt, hv, Or.inr (Or.inl ⟨tt, _, 0, .ref pb, rfl, rfl, sqT_upd h1 h4, rfl, Or.inl ⟨rfl, zs, .of hz5⟩, pb, zs, rfl, rfl, hz5, h6⟩)⟩)⟩⟩)⟩)))))))))))))))))
end
section
variable {K : Fg} {h : Heap} {mg : Str → Option Value}
def caOf (mg : Str → Option Value) : Str → Value := fun x => (mg x).getD .none
theorem ca_of {x : Str} {C : Addr} (e : mg x = some (.ref C)) : caOf mg x = .ref C := by unfold caOf; rw [e]; rfl
theorem txt_mk (X : K.In h) (G : h.Ns mainGlobals mg) {f_divisor_of : Addr} {od_divisor_of an_divisor_of : Option Addr} {sl_divisor_of : Array (Option Value)} {oc_divisor_of kv_divisor_of dc_divisor_of pm_divisor_of cd_divisor_of ct_divisor_of : Value} {f_share : Addr} {od_share an_share : Option Addr} {sl_share : Array (Option Value)} {oc_share kv_share dc_share pm_share cd_share ct_share : Value} {f_table_of : Addr} {od_table_of an_table_of : Option Addr} {sl_table_of : Array (Option Value)} {oc_table_of kv_table_of dc_table_of pm_table_of cd_table_of ct_table_of : Value} {f_sides_of : Addr} {od_sides_of an_sides_of : Option Addr} {sl_sides_of : Array (Option Value)} {oc_sides_of kv_sides_of dc_sides_of pm_sides_of cd_sides_of ct_sides_of : Value} {f_most_faces : Addr} {od_most_faces an_most_faces : Option Addr} {sl_most_faces : Array (Option Value)} {oc_most_faces kv_most_faces dc_most_faces pm_most_faces cd_most_faces ct_most_faces : Value} {f_power_of : Addr} {od_power_of an_power_of : Option Addr} {sl_power_of : Array (Option Value)} {oc_power_of kv_power_of dc_power_of pm_power_of cd_power_of ct_power_of : Value} {f_count_of : Addr} {od_count_of an_count_of : Option Addr} {sl_count_of : Array (Option Value)} {oc_count_of kv_count_of dc_count_of pm_count_of cd_count_of ct_count_of : Value} {f_ask_pool : Addr} {od_ask_pool an_ask_pool : Option Addr} {sl_ask_pool : Array (Option Value)} {oc_ask_pool kv_ask_pool dc_ask_pool pm_ask_pool cd_ask_pool ct_ask_pool : Value} {f_goes_on : Addr} {od_goes_on an_goes_on : Option Addr} {sl_goes_on : Array (Option Value)} {oc_goes_on kv_goes_on dc_goes_on pm_goes_on cd_goes_on ct_goes_on : Value} {f_longer_throws : Addr} {od_longer_throws an_longer_throws : Option Addr} {sl_longer_throws : Array (Option Value)} {oc_longer_throws kv_longer_throws dc_longer_throws pm_longer_throws cd_longer_throws ct_longer_throws : Value} {f_worth_of : Addr} {od_worth_of an_worth_of : Option Addr} {sl_worth_of : Array (Option Value)} {oc_worth_of kv_worth_of dc_worth_of pm_worth_of cd_worth_of ct_worth_of : Value} {f_plain_rows : Addr} {od_plain_rows an_plain_rows : Option Addr} {sl_plain_rows : Array (Option Value)} {oc_plain_rows kv_plain_rows dc_plain_rows pm_plain_rows cd_plain_rows ct_plain_rows : Value} {f_pool_table : Addr} {od_pool_table an_pool_table : Option Addr} {sl_pool_table : Array (Option Value)} {oc_pool_table kv_pool_table dc_pool_table pm_pool_table cd_pool_table ct_pool_table : Value} {f_what_at : Addr} {od_what_at an_what_at : Option Addr} {sl_what_at : Array (Option Value)} {oc_what_at kv_what_at dc_what_at pm_what_at cd_what_at ct_what_at : Value} {f_number_of : Addr} {od_number_of an_number_of : Option Addr} {sl_number_of : Array (Option Value)} {oc_number_of kv_number_of dc_number_of pm_number_of cd_number_of ct_number_of : Value} {f_is_open : Addr} {od_is_open an_is_open : Option Addr} {sl_is_open : Array (Option Value)} {oc_is_open kv_is_open dc_is_open pm_is_open cd_is_open ct_is_open : Value} {f_arrived : Addr} {od_arrived an_arrived : Option Addr} {sl_arrived : Array (Option Value)} {oc_arrived kv_arrived dc_arrived pm_arrived cd_arrived ct_arrived : Value} {f_begun : Addr} {od_begun an_begun : Option Addr} {sl_begun : Array (Option Value)} {oc_begun kv_begun dc_begun pm_begun cd_begun ct_begun : Value} {f_done_deeds : Addr} {od_done_deeds an_done_deeds : Option Addr} {sl_done_deeds : Array (Option Value)} {oc_done_deeds kv_done_deeds dc_done_deeds pm_done_deeds cd_done_deeds ct_done_deeds : Value} {f_found_at : Addr} {od_found_at an_found_at : Option Addr} {sl_found_at : Array (Option Value)} {oc_found_at kv_found_at dc_found_at pm_found_at cd_found_at ct_found_at : Value} {f_throw_ways : Addr} {od_throw_ways an_throw_ways : Option Addr} {sl_throw_ways : Array (Option Value)} {oc_throw_ways kv_throw_ways dc_throw_ways pm_throw_ways cd_throw_ways ct_throw_ways : Value} {f_pick_ways : Addr} {od_pick_ways an_pick_ways : Option Addr} {sl_pick_ways : Array (Option Value)} {oc_pick_ways kv_pick_ways dc_pick_ways pm_pick_ways cd_pick_ways ct_pick_ways : Value} {f_spread : Addr} {od_spread an_spread : Option Addr} {sl_spread : Array (Option Value)} {oc_spread kv_spread dc_spread pm_spread cd_spread ct_spread : Value} {f__law_at : Addr} {od__law_at an__law_at : Option Addr} {sl__law_at : Array (Option Value)} {oc__law_at kv__law_at dc__law_at pm__law_at cd__law_at ct__law_at : Value} {f__law_counts : Addr} {od__law_counts an__law_counts : Option Addr} {sl__law_counts : Array (Option Value)} {oc__law_counts kv__law_counts dc__law_counts pm__law_counts cd__law_counts ct__law_counts : Value} {f__law_asks : Addr} {od__law_asks an__law_asks : Option Addr} {sl__law_asks : Array (Option Value)} {oc__law_asks kv__law_asks dc__law_asks pm__law_asks cd__law_asks ct__law_asks : Value} {f__law_led : Addr} {od__law_led an__law_led : Option Addr} {sl__law_led : Array (Option Value)} {oc__law_led kv__law_led dc__law_led pm__law_led cd__law_led ct__law_led : Value} {f__law_end : Addr} {od__law_end an__law_end : Option Addr} {sl__law_end : Array (Option Value)} {oc__law_end kv__law_end dc__law_end pm__law_end cd__law_end ct__law_end : Value} {f__law_told : Addr} {od__law_told an__law_told : Option Addr} {sl__law_told : Array (Option Value)} {oc__law_told kv__law_told dc__law_told pm__law_told cd__law_told ct__law_told : Value} {f_law : Addr} {od_law an_law : Option Addr} {sl_law : Array (Option Value)} {oc_law kv_law dc_law pm_law cd_law ct_law : Value} {C_LuckError : Addr} {C_NoShare : Addr} {C_NoTable : Addr} {C_TooMany : Addr} {C_NoWay : Addr} {t_MOST_THROWS : Nat} {t_MOST_BOTTOM : Nat} {t_MOST_STATES : Nat}
    (a_divisor_of : PySem.W.nsIn K mainGlobals "divisor_of" = some (some (.ref f_divisor_of)))
    (l_divisor_of : K.lookup f_divisor_of = some ⟨oc_divisor_of, od_divisor_of, .func (PySem.W.fnOf "divisor_of" "divisor_of" (defArgs s_divisor_of) (defBody s_divisor_of) (defScope s_divisor_of) .none kv_divisor_of dc_divisor_of pm_divisor_of an_divisor_of cd_divisor_of ct_divisor_of), sl_divisor_of⟩)
    (c_divisor_of : PySem.W.codeIn K cd_divisor_of "divisor_of" = true)
    (k_divisor_of : PySem.W.keepIn K (.ref f_divisor_of) = true)
    (a_share : PySem.W.nsIn K mainGlobals "share" = some (some (.ref f_share)))
    (l_share : K.lookup f_share = some ⟨oc_share, od_share, .func (PySem.W.fnOf "share" "share" (defArgs s_share) (defBody s_share) (defScope s_share) .none kv_share dc_share pm_share an_share cd_share ct_share), sl_share⟩)
    (c_share : PySem.W.codeIn K cd_share "share" = true)
    (k_share : PySem.W.keepIn K (.ref f_share) = true)
    (a_table_of : PySem.W.nsIn K mainGlobals "table_of" = some (some (.ref f_table_of)))
    (l_table_of : K.lookup f_table_of = some ⟨oc_table_of, od_table_of, .func (PySem.W.fnOf "table_of" "table_of" (defArgs s_table_of) (defBody s_table_of) (defScope s_table_of) .none kv_table_of dc_table_of pm_table_of an_table_of cd_table_of ct_table_of), sl_table_of⟩)
    (c_table_of : PySem.W.codeIn K cd_table_of "table_of" = true)
    (k_table_of : PySem.W.keepIn K (.ref f_table_of) = true)
    (a_sides_of : PySem.W.nsIn K mainGlobals "sides_of" = some (some (.ref f_sides_of)))
    (l_sides_of : K.lookup f_sides_of = some ⟨oc_sides_of, od_sides_of, .func (PySem.W.fnOf "sides_of" "sides_of" (defArgs s_sides_of) (defBody s_sides_of) (defScope s_sides_of) .none kv_sides_of dc_sides_of pm_sides_of an_sides_of cd_sides_of ct_sides_of), sl_sides_of⟩)
    (c_sides_of : PySem.W.codeIn K cd_sides_of "sides_of" = true)
    (k_sides_of : PySem.W.keepIn K (.ref f_sides_of) = true)
    (a_most_faces : PySem.W.nsIn K mainGlobals "most_faces" = some (some (.ref f_most_faces)))
    (l_most_faces : K.lookup f_most_faces = some ⟨oc_most_faces, od_most_faces, .func (PySem.W.fnOf "most_faces" "most_faces" (defArgs s_most_faces) (defBody s_most_faces) (defScope s_most_faces) .none kv_most_faces dc_most_faces pm_most_faces an_most_faces cd_most_faces ct_most_faces), sl_most_faces⟩)
    (c_most_faces : PySem.W.codeIn K cd_most_faces "most_faces" = true)
    (k_most_faces : PySem.W.keepIn K (.ref f_most_faces) = true)
    (a_power_of : PySem.W.nsIn K mainGlobals "power_of" = some (some (.ref f_power_of)))
    (l_power_of : K.lookup f_power_of = some ⟨oc_power_of, od_power_of, .func (PySem.W.fnOf "power_of" "power_of" (defArgs s_power_of) (defBody s_power_of) (defScope s_power_of) .none kv_power_of dc_power_of pm_power_of an_power_of cd_power_of ct_power_of), sl_power_of⟩)
    (c_power_of : PySem.W.codeIn K cd_power_of "power_of" = true)
    (k_power_of : PySem.W.keepIn K (.ref f_power_of) = true)
    (a_count_of : PySem.W.nsIn K mainGlobals "count_of" = some (some (.ref f_count_of)))
    (l_count_of : K.lookup f_count_of = some ⟨oc_count_of, od_count_of, .func (PySem.W.fnOf "count_of" "count_of" (defArgs s_count_of) (defBody s_count_of) (defScope s_count_of) .none kv_count_of dc_count_of pm_count_of an_count_of cd_count_of ct_count_of), sl_count_of⟩)
    (c_count_of : PySem.W.codeIn K cd_count_of "count_of" = true)
    (k_count_of : PySem.W.keepIn K (.ref f_count_of) = true)
    (a_ask_pool : PySem.W.nsIn K mainGlobals "ask_pool" = some (some (.ref f_ask_pool)))
    (l_ask_pool : K.lookup f_ask_pool = some ⟨oc_ask_pool, od_ask_pool, .func (PySem.W.fnOf "ask_pool" "ask_pool" (defArgs s_ask_pool) (defBody s_ask_pool) (defScope s_ask_pool) .none kv_ask_pool dc_ask_pool pm_ask_pool an_ask_pool cd_ask_pool ct_ask_pool), sl_ask_pool⟩)
    (c_ask_pool : PySem.W.codeIn K cd_ask_pool "ask_pool" = true)
    (k_ask_pool : PySem.W.keepIn K (.ref f_ask_pool) = true)
    (a_goes_on : PySem.W.nsIn K mainGlobals "goes_on" = some (some (.ref f_goes_on)))
    (l_goes_on : K.lookup f_goes_on = some ⟨oc_goes_on, od_goes_on, .func (PySem.W.fnOf "goes_on" "goes_on" (defArgs s_goes_on) (defBody s_goes_on) (defScope s_goes_on) .none kv_goes_on dc_goes_on pm_goes_on an_goes_on cd_goes_on ct_goes_on), sl_goes_on⟩)
    (c_goes_on : PySem.W.codeIn K cd_goes_on "goes_on" = true)
    (k_goes_on : PySem.W.keepIn K (.ref f_goes_on) = true)
    (a_longer_throws : PySem.W.nsIn K mainGlobals "longer_throws" = some (some (.ref f_longer_throws)))
    (l_longer_throws : K.lookup f_longer_throws = some ⟨oc_longer_throws, od_longer_throws, .func (PySem.W.fnOf "longer_throws" "longer_throws" (defArgs s_longer_throws) (defBody s_longer_throws) (defScope s_longer_throws) .none kv_longer_throws dc_longer_throws pm_longer_throws an_longer_throws cd_longer_throws ct_longer_throws), sl_longer_throws⟩)
    (c_longer_throws : PySem.W.codeIn K cd_longer_throws "longer_throws" = true)
    (k_longer_throws : PySem.W.keepIn K (.ref f_longer_throws) = true)
    (a_worth_of : PySem.W.nsIn K mainGlobals "worth_of" = some (some (.ref f_worth_of)))
    (l_worth_of : K.lookup f_worth_of = some ⟨oc_worth_of, od_worth_of, .func (PySem.W.fnOf "worth_of" "worth_of" (defArgs s_worth_of) (defBody s_worth_of) (defScope s_worth_of) .none kv_worth_of dc_worth_of pm_worth_of an_worth_of cd_worth_of ct_worth_of), sl_worth_of⟩)
    (c_worth_of : PySem.W.codeIn K cd_worth_of "worth_of" = true)
    (k_worth_of : PySem.W.keepIn K (.ref f_worth_of) = true)
    (a_plain_rows : PySem.W.nsIn K mainGlobals "plain_rows" = some (some (.ref f_plain_rows)))
    (l_plain_rows : K.lookup f_plain_rows = some ⟨oc_plain_rows, od_plain_rows, .func (PySem.W.fnOf "plain_rows" "plain_rows" (defArgs s_plain_rows) (defBody s_plain_rows) (defScope s_plain_rows) .none kv_plain_rows dc_plain_rows pm_plain_rows an_plain_rows cd_plain_rows ct_plain_rows), sl_plain_rows⟩)
    (c_plain_rows : PySem.W.codeIn K cd_plain_rows "plain_rows" = true)
    (k_plain_rows : PySem.W.keepIn K (.ref f_plain_rows) = true)
    (a_pool_table : PySem.W.nsIn K mainGlobals "pool_table" = some (some (.ref f_pool_table)))
    (l_pool_table : K.lookup f_pool_table = some ⟨oc_pool_table, od_pool_table, .func (PySem.W.fnOf "pool_table" "pool_table" (defArgs s_pool_table) (defBody s_pool_table) (defScope s_pool_table) .none kv_pool_table dc_pool_table pm_pool_table an_pool_table cd_pool_table ct_pool_table), sl_pool_table⟩)
    (c_pool_table : PySem.W.codeIn K cd_pool_table "pool_table" = true)
    (k_pool_table : PySem.W.keepIn K (.ref f_pool_table) = true)
    (a_what_at : PySem.W.nsIn K mainGlobals "what_at" = some (some (.ref f_what_at)))
    (l_what_at : K.lookup f_what_at = some ⟨oc_what_at, od_what_at, .func (PySem.W.fnOf "what_at" "what_at" (defArgs s_what_at) (defBody s_what_at) (defScope s_what_at) .none kv_what_at dc_what_at pm_what_at an_what_at cd_what_at ct_what_at), sl_what_at⟩)
    (c_what_at : PySem.W.codeIn K cd_what_at "what_at" = true)
    (k_what_at : PySem.W.keepIn K (.ref f_what_at) = true)
    (a_number_of : PySem.W.nsIn K mainGlobals "number_of" = some (some (.ref f_number_of)))
    (l_number_of : K.lookup f_number_of = some ⟨oc_number_of, od_number_of, .func (PySem.W.fnOf "number_of" "number_of" (defArgs s_number_of) (defBody s_number_of) (defScope s_number_of) .none kv_number_of dc_number_of pm_number_of an_number_of cd_number_of ct_number_of), sl_number_of⟩)
    (c_number_of : PySem.W.codeIn K cd_number_of "number_of" = true)
    (k_number_of : PySem.W.keepIn K (.ref f_number_of) = true)
    (a_is_open : PySem.W.nsIn K mainGlobals "is_open" = some (some (.ref f_is_open)))
    (l_is_open : K.lookup f_is_open = some ⟨oc_is_open, od_is_open, .func (PySem.W.fnOf "is_open" "is_open" (defArgs s_is_open) (defBody s_is_open) (defScope s_is_open) .none kv_is_open dc_is_open pm_is_open an_is_open cd_is_open ct_is_open), sl_is_open⟩)
    (c_is_open : PySem.W.codeIn K cd_is_open "is_open" = true)
    (k_is_open : PySem.W.keepIn K (.ref f_is_open) = true)
    (a_arrived : PySem.W.nsIn K mainGlobals "arrived" = some (some (.ref f_arrived)))
    (l_arrived : K.lookup f_arrived = some ⟨oc_arrived, od_arrived, .func (PySem.W.fnOf "arrived" "arrived" (defArgs s_arrived) (defBody s_arrived) (defScope s_arrived) .none kv_arrived dc_arrived pm_arrived an_arrived cd_arrived ct_arrived), sl_arrived⟩)
    (c_arrived : PySem.W.codeIn K cd_arrived "arrived" = true)
    (k_arrived : PySem.W.keepIn K (.ref f_arrived) = true)
    (a_begun : PySem.W.nsIn K mainGlobals "begun" = some (some (.ref f_begun)))
    (l_begun : K.lookup f_begun = some ⟨oc_begun, od_begun, .func (PySem.W.fnOf "begun" "begun" (defArgs s_begun) (defBody s_begun) (defScope s_begun) .none kv_begun dc_begun pm_begun an_begun cd_begun ct_begun), sl_begun⟩)
    (c_begun : PySem.W.codeIn K cd_begun "begun" = true)
    (k_begun : PySem.W.keepIn K (.ref f_begun) = true)
    (a_done_deeds : PySem.W.nsIn K mainGlobals "done_deeds" = some (some (.ref f_done_deeds)))
    (l_done_deeds : K.lookup f_done_deeds = some ⟨oc_done_deeds, od_done_deeds, .func (PySem.W.fnOf "done_deeds" "done_deeds" (defArgs s_done_deeds) (defBody s_done_deeds) (defScope s_done_deeds) .none kv_done_deeds dc_done_deeds pm_done_deeds an_done_deeds cd_done_deeds ct_done_deeds), sl_done_deeds⟩)
    (c_done_deeds : PySem.W.codeIn K cd_done_deeds "done_deeds" = true)
    (k_done_deeds : PySem.W.keepIn K (.ref f_done_deeds) = true)
    (a_found_at : PySem.W.nsIn K mainGlobals "found_at" = some (some (.ref f_found_at)))
    (l_found_at : K.lookup f_found_at = some ⟨oc_found_at, od_found_at, .func (PySem.W.fnOf "found_at" "found_at" (defArgs s_found_at) (defBody s_found_at) (defScope s_found_at) .none kv_found_at dc_found_at pm_found_at an_found_at cd_found_at ct_found_at), sl_found_at⟩)
    (c_found_at : PySem.W.codeIn K cd_found_at "found_at" = true)
    (k_found_at : PySem.W.keepIn K (.ref f_found_at) = true)
    (a_throw_ways : PySem.W.nsIn K mainGlobals "throw_ways" = some (some (.ref f_throw_ways)))
    (l_throw_ways : K.lookup f_throw_ways = some ⟨oc_throw_ways, od_throw_ways, .func (PySem.W.fnOf "throw_ways" "throw_ways" (defArgs s_throw_ways) (defBody s_throw_ways) (defScope s_throw_ways) .none kv_throw_ways dc_throw_ways pm_throw_ways an_throw_ways cd_throw_ways ct_throw_ways), sl_throw_ways⟩)
    (c_throw_ways : PySem.W.codeIn K cd_throw_ways "throw_ways" = true)
    (k_throw_ways : PySem.W.keepIn K (.ref f_throw_ways) = true)
    (a_pick_ways : PySem.W.nsIn K mainGlobals "pick_ways" = some (some (.ref f_pick_ways)))
    (l_pick_ways : K.lookup f_pick_ways = some ⟨oc_pick_ways, od_pick_ways, .func (PySem.W.fnOf "pick_ways" "pick_ways" (defArgs s_pick_ways) (defBody s_pick_ways) (defScope s_pick_ways) .none kv_pick_ways dc_pick_ways pm_pick_ways an_pick_ways cd_pick_ways ct_pick_ways), sl_pick_ways⟩)
    (c_pick_ways : PySem.W.codeIn K cd_pick_ways "pick_ways" = true)
    (k_pick_ways : PySem.W.keepIn K (.ref f_pick_ways) = true)
    (a_spread : PySem.W.nsIn K mainGlobals "spread" = some (some (.ref f_spread)))
    (l_spread : K.lookup f_spread = some ⟨oc_spread, od_spread, .func (PySem.W.fnOf "spread" "spread" (defArgs s_spread) (defBody s_spread) (defScope s_spread) .none kv_spread dc_spread pm_spread an_spread cd_spread ct_spread), sl_spread⟩)
    (c_spread : PySem.W.codeIn K cd_spread "spread" = true)
    (k_spread : PySem.W.keepIn K (.ref f_spread) = true)
    (a__law_at : PySem.W.nsIn K mainGlobals "_law_at" = some (some (.ref f__law_at)))
    (l__law_at : K.lookup f__law_at = some ⟨oc__law_at, od__law_at, .func (PySem.W.fnOf "_law_at" "_law_at" (defArgs s__law_at) (defBody s__law_at) (defScope s__law_at) .none kv__law_at dc__law_at pm__law_at an__law_at cd__law_at ct__law_at), sl__law_at⟩)
    (c__law_at : PySem.W.codeIn K cd__law_at "_law_at" = true)
    (k__law_at : PySem.W.keepIn K (.ref f__law_at) = true)
    (a__law_counts : PySem.W.nsIn K mainGlobals "_law_counts" = some (some (.ref f__law_counts)))
    (l__law_counts : K.lookup f__law_counts = some ⟨oc__law_counts, od__law_counts, .func (PySem.W.fnOf "_law_counts" "_law_counts" (defArgs s__law_counts) (defBody s__law_counts) (defScope s__law_counts) .none kv__law_counts dc__law_counts pm__law_counts an__law_counts cd__law_counts ct__law_counts), sl__law_counts⟩)
    (c__law_counts : PySem.W.codeIn K cd__law_counts "_law_counts" = true)
    (k__law_counts : PySem.W.keepIn K (.ref f__law_counts) = true)
    (a__law_asks : PySem.W.nsIn K mainGlobals "_law_asks" = some (some (.ref f__law_asks)))
    (l__law_asks : K.lookup f__law_asks = some ⟨oc__law_asks, od__law_asks, .func (PySem.W.fnOf "_law_asks" "_law_asks" (defArgs s__law_asks) (defBody s__law_asks) (defScope s__law_asks) .none kv__law_asks dc__law_asks pm__law_asks an__law_asks cd__law_asks ct__law_asks), sl__law_asks⟩)
    (c__law_asks : PySem.W.codeIn K cd__law_asks "_law_asks" = true)
    (k__law_asks : PySem.W.keepIn K (.ref f__law_asks) = true)
    (a__law_led : PySem.W.nsIn K mainGlobals "_law_led" = some (some (.ref f__law_led)))
    (l__law_led : K.lookup f__law_led = some ⟨oc__law_led, od__law_led, .func (PySem.W.fnOf "_law_led" "_law_led" (defArgs s__law_led) (defBody s__law_led) (defScope s__law_led) .none kv__law_led dc__law_led pm__law_led an__law_led cd__law_led ct__law_led), sl__law_led⟩)
    (c__law_led : PySem.W.codeIn K cd__law_led "_law_led" = true)
    (k__law_led : PySem.W.keepIn K (.ref f__law_led) = true)
    (a__law_end : PySem.W.nsIn K mainGlobals "_law_end" = some (some (.ref f__law_end)))
    (l__law_end : K.lookup f__law_end = some ⟨oc__law_end, od__law_end, .func (PySem.W.fnOf "_law_end" "_law_end" (defArgs s__law_end) (defBody s__law_end) (defScope s__law_end) .none kv__law_end dc__law_end pm__law_end an__law_end cd__law_end ct__law_end), sl__law_end⟩)
    (c__law_end : PySem.W.codeIn K cd__law_end "_law_end" = true)
    (k__law_end : PySem.W.keepIn K (.ref f__law_end) = true)
    (a__law_told : PySem.W.nsIn K mainGlobals "_law_told" = some (some (.ref f__law_told)))
    (l__law_told : K.lookup f__law_told = some ⟨oc__law_told, od__law_told, .func (PySem.W.fnOf "_law_told" "_law_told" (defArgs s__law_told) (defBody s__law_told) (defScope s__law_told) .none kv__law_told dc__law_told pm__law_told an__law_told cd__law_told ct__law_told), sl__law_told⟩)
    (c__law_told : PySem.W.codeIn K cd__law_told "_law_told" = true)
    (k__law_told : PySem.W.keepIn K (.ref f__law_told) = true)
    (a_law : PySem.W.nsIn K mainGlobals "law" = some (some (.ref f_law)))
    (l_law : K.lookup f_law = some ⟨oc_law, od_law, .func (PySem.W.fnOf "law" "law" (defArgs s_law) (defBody s_law) (defScope s_law) .none kv_law dc_law pm_law an_law cd_law ct_law), sl_law⟩)
    (c_law : PySem.W.codeIn K cd_law "law" = true)
    (k_law : PySem.W.keepIn K (.ref f_law) = true)
    (ea_LuckError : PySem.W.nsIn K mainGlobals "LuckError" = some (some (.ref C_LuckError)))
    (ee_LuckError : PySem.W.excIn K C_LuckError [.type "ValueError", .type "Exception", .type "BaseException", .type "object"] "ValueError.__new__" = true)
    (ek_LuckError : PySem.W.keepIn K (.ref C_LuckError) = true)
    (eb_LuckError : PySem.W.subIn K (.ref C_LuckError) (.type "BaseException") = some true)
    (et_LuckError : PySem.W.typeIn K (.ref C_LuckError) = some (.type "type"))
    (ea_NoShare : PySem.W.nsIn K mainGlobals "NoShare" = some (some (.ref C_NoShare)))
    (ee_NoShare : PySem.W.excIn K C_NoShare [.type "ValueError", .type "Exception", .type "BaseException", .type "object"] "ValueError.__new__" = true)
    (ek_NoShare : PySem.W.keepIn K (.ref C_NoShare) = true)
    (eb_NoShare : PySem.W.subIn K (.ref C_NoShare) (.type "BaseException") = some true)
    (et_NoShare : PySem.W.typeIn K (.ref C_NoShare) = some (.type "type"))
    (ea_NoTable : PySem.W.nsIn K mainGlobals "NoTable" = some (some (.ref C_NoTable)))
    (ee_NoTable : PySem.W.excIn K C_NoTable [.type "ValueError", .type "Exception", .type "BaseException", .type "object"] "ValueError.__new__" = true)
    (ek_NoTable : PySem.W.keepIn K (.ref C_NoTable) = true)
    (eb_NoTable : PySem.W.subIn K (.ref C_NoTable) (.type "BaseException") = some true)
    (et_NoTable : PySem.W.typeIn K (.ref C_NoTable) = some (.type "type"))
    (ea_TooMany : PySem.W.nsIn K mainGlobals "TooMany" = some (some (.ref C_TooMany)))
    (ee_TooMany : PySem.W.excIn K C_TooMany [.type "ValueError", .type "Exception", .type "BaseException", .type "object"] "ValueError.__new__" = true)
    (ek_TooMany : PySem.W.keepIn K (.ref C_TooMany) = true)
    (eb_TooMany : PySem.W.subIn K (.ref C_TooMany) (.type "BaseException") = some true)
    (et_TooMany : PySem.W.typeIn K (.ref C_TooMany) = some (.type "type"))
    (ea_NoWay : PySem.W.nsIn K mainGlobals "NoWay" = some (some (.ref C_NoWay)))
    (ee_NoWay : PySem.W.excIn K C_NoWay [.type "ValueError", .type "Exception", .type "BaseException", .type "object"] "ValueError.__new__" = true)
    (ek_NoWay : PySem.W.keepIn K (.ref C_NoWay) = true)
    (eb_NoWay : PySem.W.subIn K (.ref C_NoWay) (.type "BaseException") = some true)
    (et_NoWay : PySem.W.typeIn K (.ref C_NoWay) = some (.type "type"))
    (b_ValueError : PySem.W.nsIn K mainGlobals "ValueError" = some none)
    (b_abs : PySem.W.nsIn K mainGlobals "abs" = some none)
    (b_bool : PySem.W.nsIn K mainGlobals "bool" = some none)
    (b_isinstance : PySem.W.nsIn K mainGlobals "isinstance" = some none)
    (b_len : PySem.W.nsIn K mainGlobals "len" = some none)
    (b_list : PySem.W.nsIn K mainGlobals "list" = some none)
    (b_min : PySem.W.nsIn K mainGlobals "min" = some none)
    (b_range : PySem.W.nsIn K mainGlobals "range" = some none)
    (b_sorted : PySem.W.nsIn K mainGlobals "sorted" = some none)
    (b_sum : PySem.W.nsIn K mainGlobals "sum" = some none)
    (b_tuple : PySem.W.nsIn K mainGlobals "tuple" = some none)
    (v_MOST_THROWS : PySem.W.nsIn K mainGlobals "MOST_THROWS" = some (some (.int 1296 t_MOST_THROWS)))
    (v_MOST_BOTTOM : PySem.W.nsIn K mainGlobals "MOST_BOTTOM" = some (some (.int 1000000 t_MOST_BOTTOM)))
    (v_MOST_STATES : PySem.W.nsIn K mainGlobals "MOST_STATES" = some (some (.int 120 t_MOST_STATES))) : Txt K mg (caOf mg) where
  d_divisor_of := ⟨_, _, fun_mk l_divisor_of c_divisor_of k_divisor_of, PySem.W.mg_of X G a_divisor_of⟩
  d_share := ⟨_, _, fun_mk l_share c_share k_share, PySem.W.mg_of X G a_share⟩
  d_table_of := ⟨_, _, fun_mk l_table_of c_table_of k_table_of, PySem.W.mg_of X G a_table_of⟩
  d_sides_of := ⟨_, _, fun_mk l_sides_of c_sides_of k_sides_of, PySem.W.mg_of X G a_sides_of⟩
  d_most_faces := ⟨_, _, fun_mk l_most_faces c_most_faces k_most_faces, PySem.W.mg_of X G a_most_faces⟩
  d_power_of := ⟨_, _, fun_mk l_power_of c_power_of k_power_of, PySem.W.mg_of X G a_power_of⟩
  d_count_of := ⟨_, _, fun_mk l_count_of c_count_of k_count_of, PySem.W.mg_of X G a_count_of⟩
  d_ask_pool := ⟨_, _, fun_mk l_ask_pool c_ask_pool k_ask_pool, PySem.W.mg_of X G a_ask_pool⟩
  d_goes_on := ⟨_, _, fun_mk l_goes_on c_goes_on k_goes_on, PySem.W.mg_of X G a_goes_on⟩
  d_longer_throws := ⟨_, _, fun_mk l_longer_throws c_longer_throws k_longer_throws, PySem.W.mg_of X G a_longer_throws⟩
  d_worth_of := ⟨_, _, fun_mk l_worth_of c_worth_of k_worth_of, PySem.W.mg_of X G a_worth_of⟩
  d_plain_rows := ⟨_, _, fun_mk l_plain_rows c_plain_rows k_plain_rows, PySem.W.mg_of X G a_plain_rows⟩
  d_pool_table := ⟨_, _, fun_mk l_pool_table c_pool_table k_pool_table, PySem.W.mg_of X G a_pool_table⟩
  d_what_at := ⟨_, _, fun_mk l_what_at c_what_at k_what_at, PySem.W.mg_of X G a_what_at⟩
  d_number_of := ⟨_, _, fun_mk l_number_of c_number_of k_number_of, PySem.W.mg_of X G a_number_of⟩
  d_is_open := ⟨_, _, fun_mk l_is_open c_is_open k_is_open, PySem.W.mg_of X G a_is_open⟩
  d_arrived := ⟨_, _, fun_mk l_arrived c_arrived k_arrived, PySem.W.mg_of X G a_arrived⟩
  d_begun := ⟨_, _, fun_mk l_begun c_begun k_begun, PySem.W.mg_of X G a_begun⟩
  d_done_deeds := ⟨_, _, fun_mk l_done_deeds c_done_deeds k_done_deeds, PySem.W.mg_of X G a_done_deeds⟩
  d_found_at := ⟨_, _, fun_mk l_found_at c_found_at k_found_at, PySem.W.mg_of X G a_found_at⟩
  d_throw_ways := ⟨_, _, fun_mk l_throw_ways c_throw_ways k_throw_ways, PySem.W.mg_of X G a_throw_ways⟩
  d_pick_ways := ⟨_, _, fun_mk l_pick_ways c_pick_ways k_pick_ways, PySem.W.mg_of X G a_pick_ways⟩
  d_spread := ⟨_, _, fun_mk l_spread c_spread k_spread, PySem.W.mg_of X G a_spread⟩
  d__law_at := ⟨_, _, fun_mk l__law_at c__law_at k__law_at, PySem.W.mg_of X G a__law_at⟩
  d__law_counts := ⟨_, _, fun_mk l__law_counts c__law_counts k__law_counts, PySem.W.mg_of X G a__law_counts⟩
  d__law_asks := ⟨_, _, fun_mk l__law_asks c__law_asks k__law_asks, PySem.W.mg_of X G a__law_asks⟩
  d__law_led := ⟨_, _, fun_mk l__law_led c__law_led k__law_led, PySem.W.mg_of X G a__law_led⟩
  d__law_end := ⟨_, _, fun_mk l__law_end c__law_end k__law_end, PySem.W.mg_of X G a__law_end⟩
  d__law_told := ⟨_, _, fun_mk l__law_told c__law_told k__law_told, PySem.W.mg_of X G a__law_told⟩
  d_law := ⟨_, _, fun_mk l_law c_law k_law, PySem.W.mg_of X G a_law⟩
  x_LuckError := ⟨_, PySem.W.mg_of X G ea_LuckError, ca_of (PySem.W.mg_of X G ea_LuckError), ee_LuckError, ek_LuckError, eb_LuckError, et_LuckError⟩
  x_NoShare := ⟨_, PySem.W.mg_of X G ea_NoShare, ca_of (PySem.W.mg_of X G ea_NoShare), ee_NoShare, ek_NoShare, eb_NoShare, et_NoShare⟩
  x_NoTable := ⟨_, PySem.W.mg_of X G ea_NoTable, ca_of (PySem.W.mg_of X G ea_NoTable), ee_NoTable, ek_NoTable, eb_NoTable, et_NoTable⟩
  x_TooMany := ⟨_, PySem.W.mg_of X G ea_TooMany, ca_of (PySem.W.mg_of X G ea_TooMany), ee_TooMany, ek_TooMany, eb_TooMany, et_TooMany⟩
  x_NoWay := ⟨_, PySem.W.mg_of X G ea_NoWay, ca_of (PySem.W.mg_of X G ea_NoWay), ee_NoWay, ek_NoWay, eb_NoWay, et_NoWay⟩
  b_ValueError := PySem.W.mg_none_of X G b_ValueError
  b_abs := PySem.W.mg_none_of X G b_abs
  b_bool := PySem.W.mg_none_of X G b_bool
  b_isinstance := PySem.W.mg_none_of X G b_isinstance
  b_len := PySem.W.mg_none_of X G b_len
  b_list := PySem.W.mg_none_of X G b_list
  b_min := PySem.W.mg_none_of X G b_min
  b_range := PySem.W.mg_none_of X G b_range
  b_sorted := PySem.W.mg_none_of X G b_sorted
  b_sum := PySem.W.mg_none_of X G b_sum
  b_tuple := PySem.W.mg_none_of X G b_tuple
  c_MOST_THROWS := ⟨_, PySem.W.mg_of X G v_MOST_THROWS⟩
  c_MOST_BOTTOM := ⟨_, PySem.W.mg_of X G v_MOST_BOTTOM⟩
  c_MOST_STATES := ⟨_, PySem.W.mg_of X G v_MOST_STATES⟩
end
end G
set_option Elab.async false
set_option linter.all false
set_option maxRecDepth 100000
set_option maxHeartbeats 1000000
namespace G
open PySem PySem.Spec L2 DL
theorem at_ex (ns : List Int) (k : Nat) (hk : k ≤ 1000) : ∃ z : Int, F__law_at [.list (ns.map .int), .int (k : Nat)] = .ok (.int z) := by
  by_cases h : k < ns.length
  · have e := getI h
    refine ⟨ns.getD k 0, ?_⟩
    have h' : ((k : Int) < (ns.length : Int)) := by omega
    simp [F__law_at, m__law_at, h', e]
  · have h' : ¬ ((k : Int) < (ns.length : Int)) := by omega
    have kk : (0 : Int) ≤ (k : Int) := Int.natCast_nonneg k
    have kl : (k : Int) ≤ 1000 := by omega
    by_cases h0 : ns.length = 0
    · have e0 : ns = [] := List.eq_nil_of_length_eq_zero h0
      subst e0
      have h2 : ¬ ((k : Int) < 0) := by omega
      refine ⟨(67 + 79 * (k : Int) + 2) * (201 + (k : Int) * (k : Int) + 47) % 1000183, ?_⟩
      have m1 := fun y => mulD_l (i := 67 + 79 * (k : Int) + 2) (j := y) (by omega) (by omega)
      have m2 := fun y => mulD_l (i := 79) (j := y) (by omega) (by omega)
      have m3 := fun y => mulD_l (i := 67) (j := y) (by omega) (by omega)
      have m4 := fun y => mulD_l (i := (k : Int)) (j := y) (by omega) (by omega)
      simp [F__law_at, m__law_at, h2, m1, m2, m3, m4, modD]
    · obtain ⟨j, hj, ej⟩ := emod_nat ((k : Int) * 13 + 4) (n := ns.length) (by omega)
      have e := getI hj
      have hp : 0 < ns.length := by omega
      have hp' : (0 : Int) < (ns.length : Int) := by omega
      obtain ⟨b, hb, eb'⟩ := emod_int (ns.getD j 0) (m := 998819) (by omega)
      refine ⟨((b : Int) + 79 * (k : Int) + 2) * ((b : Int) * 3 + (k : Int) * (k : Int) + 47) % 1000183, ?_⟩
      have e3 : modD (.int ((k : Int) * 13 + 4)) (.int (ns.length : Int)) = .ok (.int (j : Int)) := by rw [modD_p hp', ej]
      have e4 : modD (.int (ns.getD j 0)) (.int 998819) = .ok (.int (b : Int)) := by rw [modD_p (by omega), eb']
      have m1 := fun y => mulD_l (i := (b : Int) + 79 * (k : Int) + 2) (j := y) (by omega) (by omega)
      have m2 := fun y => mulD_l (i := 79) (j := y) (by omega) (by omega)
      have m3 := fun y => mulD_l (i := (b : Int)) (j := y) (by omega) (by omega)
      have m4 := fun y => mulD_l (i := (k : Int)) (j := y) (by omega) (by omega)
      have m5 := modD_p (i := ((b : Int) + 79 * (k : Int) + 2) * ((b : Int) * 3 + (k : Int) * (k : Int) + 47)) (j := 1000183) (by omega)
      simp [F__law_at, m__law_at, h', hp, e3, e, e4, m1, m2, m3, m4, m5, -List.getD_eq_getElem?_getD]
/-- the script's draws -/
def Draws (L : PyData) (z : Nat → Int) : Prop := ∀ k : Nat, k ≤ 1000 → F__law_at [L, .int (k : Nat)] = .ok (.int (z k))
theorem draws (ns : List Int) : ∃ z, Draws (.list (ns.map .int)) z := by
  have := fun k => at_ex ns k
  refine ⟨fun k => if h : k ≤ 1000 then Classical.choose (this k h) else 0, fun k hk => ?_⟩
  simp only [hk, dif_pos]
  exact Classical.choose_spec (this k hk)
theorem mod3 (z : Int) : z % 3 = 0 ∨ z % 3 = 1 ∨ z % 3 = 2 := by omega
def csOf (z : Nat → Int) : Cs := [(Str.ofString "turn", 1 + z 1 % 60), (Str.ofString "b", 1 + z 2 % 60), (Str.ofString "pay", 1 + z 3 % 60)].take (1 + z 0 % 3).toNat
theorem counts_eq {L : PyData} {z : Nat → Int} (hz : Draws L z) : F__law_counts [L] = .ok (.list ((csOf z).map cD)) := by
  have a0 : F__law_at [L, .int 0] = _ := hz 0 (by decide)
  have a1 : F__law_at [L, .int 1] = _ := hz 1 (by decide)
  have a2 : F__law_at [L, .int 2] = _ := hz 2 (by decide)
  have a3 : F__law_at [L, .int 3] = _ := hz 3 (by decide)
  have g : ∀ j : Int, 0 ≤ j → j < 10 → rngOk j := fun j h0 h1 => rng_of h0 (by omega)
  have g1 := g 1 (by decide) (by decide)
  have g2 := g 2 (by decide) (by decide)
  have g3 := g 3 (by decide) (by decide)
  have r1 : rangeL 0 1 = [.int 0] := rfl
  have r2 : rangeL 0 2 = [.int 0, .int 1] := rfl
  have r3 : rangeL 0 3 = [.int 0, .int 1, .int 2] := rfl
  have m1 := fun i => modD_p (i := i) (j := 3) (by omega)
  have m2 := fun i => modD_p (i := i) (j := 60) (by omega)
  rcases mod3 (z 0) with h | h | h
  · simp [F__law_counts, m__law_counts, a0, a1, m1, m2, h, g1, r1, sizeLine_eq, csOf, cD]
  · simp [F__law_counts, m__law_counts, a0, a1, a2, m1, m2, h, g2, r2, sizeLine_eq, csOf, cD]
  · simp [F__law_counts, m__law_counts, a0, a1, a2, a3, m1, m2, h, g3, r3, sizeLine_eq, csOf, cD]
def askN : List Str := [Str.ofString "aa", Str.ofString "ab", Str.ofString "ac", Str.ofString "ad", Str.ofString "ae", Str.ofString "af", Str.ofString "ag"]
def endN : List Str := [Str.ofString "end", Str.ofString "go", Str.ofString "x", Str.ofString "lost"]
/-- the i-th place of a fair list: na asks, then ends -/
def plOk (cs : Cs) (N : List Str) (na i : Nat) (w : Wh) : Prop :=
  if i < na then ∃ c q a b, w = .ask c q a b ∧ c ∈ nms cs ∧ a ∈ N.drop (i + 1) ∧ b ∈ N.drop (i + 1)
  else (∃ t : Int, w = .fin (.tuple [.int t, .int 1])) ∨ ∃ c, w = .score c ∧ c ∈ nms cs
structure PlOk (cs : Cs) (N : List Str) (na : Nat) (ps : Pw) : Prop where
  n : ps.map (·.1) = N.take ps.length
  w : ∀ i w, (ps[i]?).map (·.2) = some w → plOk cs N na i w
theorem PlOk.snoc {cs : Cs} {N : List Str} {na : Nat} {ps : Pw} (h : PlOk cs N na ps) {x : Str} {w : Wh} (hx : N[ps.length]? = some x) (hw : plOk cs N na ps.length w) : PlOk cs N na (ps ++ [(x, w)]) where
  n := by
    rw [List.map_append, h.n, List.length_append]
    show _ ++ [x] = N.take (ps.length + 1)
    rw [List.take_add_one, hx]
    rfl
  w := fun i v hv => by
    by_cases hi : i < ps.length
    · rw [List.getElem?_append_left hi] at hv
      exact h.w i v hv
    · rw [List.getElem?_append_right (by omega)] at hv
      by_cases he : i = ps.length
      · subst he
        simp at hv
        subst hv
        exact hw
      · obtain ⟨k, hk⟩ : ∃ k, i - ps.length = k + 1 := ⟨i - ps.length - 1, by omega⟩
        rw [hk] at hv
        simp at hv
def bA1 : En → O := (yCons (ySet 7 (xCl 2 F__law_at (xCons (xVar 0) (xCons (xB addD (xC (.int 6)) (xVar 6)) xNil)))) (yCons (ySet 8 (xSl (xVar 4) (xO1 (xB addD (xVar 6) (xC (.int 1)))) xO0)) (yCons (yUnp (tgTup [9, 10]) (xB ixD (xVar 1) (xB modD (xVar 7) (xF lenD (xCons (xVar 1) xNil))))) (yCons (ySet 11 (xB modD (xB fdivD (xVar 7) (xC (.int 3))) (xB addD (xVar 10) (xC (.int 3))))) (yCons (ySet 12 (xB ixD (xVar 8) (xB modD (xB fdivD (xVar 7) (xC (.int 200))) (xF lenD (xCons (xVar 8) xNil))))) (yApp 5 (xTup (xCons (xB ixD (xVar 4) (xVar 6)) (xCons (xTup (xCons (xC (.str "ask")) (xCons (xVar 9) (xCons (xVar 11) (xCons (xVar 12) (xCons (xB ixD (xVar 8) (xB modD (xB fdivD (xVar 7) (xC (.int 1000))) (xF lenD (xCons (xVar 8) xNil)))) xNil)))))) xNil)))))))))
def bA2 : En → O := (yCons (ySet 13 (xTup (xCons (xC (.str "end")) (xCons (xTup (xCons (xB modD (xCl 2 F__law_at (xCons (xVar 0) (xCons (xB addD (xC (.int 13)) (xVar 6)) xNil))) (xC (.int 100))) (xCons (xC (.int 1)) xNil))) xNil)))) (yCons (yIf (xT (xB eqD (xB modD (xB fdivD (xCl 2 F__law_at (xCons (xVar 0) (xCons (xB addD (xC (.int 13)) (xVar 6)) xNil))) (xC (.int 100))) (xC (.int 2))) (xC (.int 1)))) (ySet 13 (xTup (xCons (xC (.str "score")) (xCons (xB ixD (xB ixD (xVar 1) (xB modD (xB fdivD (xCl 2 F__law_at (xCons (xVar 0) (xCons (xB addD (xC (.int 13)) (xVar 6)) xNil))) (xC (.int 200))) (xF lenD (xCons (xVar 1) xNil)))) (xC (.int 0))) xNil)))) yNil) (yApp 5 (xTup (xCons (xB ixD (xVar 4) (xB addD (xVar 2) (xVar 6))) (xCons (xVar 13) xNil))))))
theorem ask_step {L : PyData} {z : Nat → Int} (hz : Draws L z) {cs : Cs} (h0 : 0 < cs.length) (h1 : ∀ c ∈ cs, 1 ≤ c.2) {N : List Str} {na i : Nat} (hi : i < na) (hN : na < N.length) (hs : na ≤ 7) {a b s7 s8 s9 s10 s11 s12 s13 : Slot} {ds : List PyData} (hd : ds.length < 16777216) :
    ∃ (w : Wh) (x7 x8 x9 x10 x11 x12 : Slot), plOk cs N na i w ∧ bA1 [.sh L, .sh (.list (cs.map cD)), a, b, .sh (.list (N.map .str)), .own ds, .sh (.int (i : Int)), s7, s8, s9, s10, s11, s12, s13] =
      .nx [.sh L, .sh (.list (cs.map cD)), a, b, .sh (.list (N.map .str)), .own (ds ++ [.tuple [.str (N.getD i ""), whD w]]), .sh (.int (i : Int)), x7, x8, x9, x10, x11, x12, s13] := by
  have ec : F__law_at [L, .int (6 + (i : Int))] = _ := hz (6 + i) (by omega)
  obtain ⟨c, hc, e1⟩ := pick_ex cD (z (6 + i)) h0
  have hB : 0 < (N.drop (i + 1)).length := by rw [List.length_drop]; omega
  obtain ⟨x, hx, e2⟩ := pick_ex PyData.str (z (6 + i) / 200) hB
  obtain ⟨y, hy, e3⟩ := pick_ex PyData.str (z (6 + i) / 1000) hB
  have eB := cut_drop (N.map .str) i
  rw [← List.map_drop] at eB
  have m1 : modD (.int (z (6 + i))) (.int (cs.length : Int)) = _ := modD_p (by omega)
  have hc1 := h1 c hc
  have m2 := modD_p (i := z (6 + i) / 3) (j := c.2 + 3) (by omega)
  have m3 : modD (.int (z (6 + i) / 200)) (.int ((N.drop (i + 1)).length : Int)) = _ := modD_p (by omega)
  have m4 : modD (.int (z (6 + i) / 1000)) (.int ((N.drop (i + 1)).length : Int)) = _ := modD_p (by omega)
  have f1 := fdivD_p (i := z (6 + i)) (j := 3) (by omega) (by omega)
  have f2 := fdivD_p (i := z (6 + i)) (j := 200) (by omega) (by omega)
  have f3 := fdivD_p (i := z (6 + i)) (j := 1000) (by omega) (by omega)
  have eN : ixD (.list (N.map .str)) (.int (i : Int)) = .ok (.str (N.getD i "")) := ixD_list (by rw [List.getElem?_map, List.getElem?_eq_getElem (by omega)]; simp [List.getD, List.getElem?_eq_getElem (show i < N.length by omega)])
  refine ⟨.ask c.1 (z (6 + i) / 3 % (c.2 + 3)) x y, .sh (.int (z (6 + i))), .sh (.list ((N.drop (i + 1)).map .str)), .sh (.str c.1), .sh (.int c.2), .sh (.int (z (6 + i) / 3 % (c.2 + 3))), .sh (.str x), ?_, ?_⟩
  · unfold plOk
    rw [if_pos hi]
    exact ⟨_, _, _, _, rfl, List.mem_map.mpr ⟨c, hc, rfl⟩, hx, hy⟩
  · generalize hM : N.drop (i + 1) = M at *
    simp [bA1, ec, m1, e1, cD, m2, m3, m4, f1, f2, f3, eB, e2, e3, eN, hd, sizeLine_eq, -List.getD_eq_getElem?_getD, -List.map_drop]
theorem end_step {L : PyData} {z : Nat → Int} (hz : Draws L z) {cs : Cs} (h0 : 0 < cs.length) {N : List Str} {na i : Nat} {b : Slot} (hi : na + i < N.length) (hs : na ≤ 7) (hs4 : i < 4) {s7 s8 s9 s10 s11 s12 s13 : Slot} {ds : List PyData} (hd : ds.length < 16777216) :
    ∃ (w : Wh) (x13 : Slot), plOk cs N na (na + i) w ∧ bA2 [.sh L, .sh (.list (cs.map cD)), .sh (.int (na : Int)), b, .sh (.list (N.map .str)), .own ds, .sh (.int (i : Int)), s7, s8, s9, s10, s11, s12, s13] =
      .nx [.sh L, .sh (.list (cs.map cD)), .sh (.int (na : Int)), b, .sh (.list (N.map .str)), .own (ds ++ [.tuple [.str (N.getD (na + i) ""), whD w]]), .sh (.int (i : Int)), s7, s8, s9, s10, s11, s12, x13] := by
  have ec : F__law_at [L, .int (13 + (i : Int))] = _ := hz (13 + i) (by omega)
  obtain ⟨c, hc, e1⟩ := pick_ex cD (z (13 + i) / 200) h0
  have m1 : modD (.int (z (13 + i) / 200)) (.int (cs.length : Int)) = _ := modD_p (by omega)
  have m2 := modD_p (i := z (13 + i)) (j := 100) (by omega)
  have m3 := modD_p (i := z (13 + i) / 100) (j := 2) (by omega)
  have f1 := fdivD_p (i := z (13 + i)) (j := 100) (by omega) (by omega)
  have f2 := fdivD_p (i := z (13 + i)) (j := 200) (by omega) (by omega)
  have eN : ixD (.list (N.map .str)) (.int ((na : Int) + (i : Int))) = .ok (.str (N.getD (na + i) "")) := ixD_list (k := na + i) (by rw [List.getElem?_map, List.getElem?_eq_getElem (by omega)]; simp [List.getD, List.getElem?_eq_getElem hi])
  by_cases hq : z (13 + i) / 100 % 2 = 1
  · refine ⟨.score c.1, .sh (whD (.score c.1)), ?_, ?_⟩
    · unfold plOk
      rw [if_neg (by omega)]
      exact Or.inr ⟨_, rfl, List.mem_map.mpr ⟨c, hc, rfl⟩⟩
    · simp [bA2, ec, m1, e1, cD, m2, m3, f1, f2, eN, hd, hq, sizeLine_eq, -List.getD_eq_getElem?_getD]
  · refine ⟨.fin (.tuple [.int (z (13 + i) % 100), .int 1]), .sh (whD (.fin (.tuple [.int (z (13 + i) % 100), .int 1]))), ?_, ?_⟩
    · unfold plOk
      rw [if_neg (by omega)]
      exact Or.inl ⟨_, rfl⟩
    · simp [bA2, ec, m1, e1, cD, m2, m3, f1, f2, eN, hd, hq, sizeLine_eq, -List.getD_eq_getElem?_getD]
theorem asks_eq {L : PyData} {z : Nat → Int} (hz : Draws L z) {cs : Cs} (h0 : 0 < cs.length) (h1 : ∀ c ∈ cs, 1 ≤ c.2) : ∃ (na ne : Nat) (ps : Pw), 1 ≤ na ∧ na ≤ 7 ∧ 1 ≤ ne ∧ ne ≤ 4 ∧ ps.length = na + ne ∧ PlOk cs (askN.take na ++ endN.take ne) na ps ∧ F__law_asks [L, .list (cs.map cD)] = .ok (.list ((pw ps).map pD)) := by
  obtain ⟨na, hna, ena⟩ : ∃ na : Nat, (1 ≤ na ∧ na ≤ 7) ∧ 1 + z 4 % 7 = (na : Int) := ⟨(1 + z 4 % 7).toNat, by omega, by omega⟩
  obtain ⟨ne, hne, ene⟩ : ∃ ne : Nat, (1 ≤ ne ∧ ne ≤ 4) ∧ 1 + z 5 % 4 = (ne : Int) := ⟨(1 + z 5 % 4).toNat, by omega, by omega⟩
  refine ⟨na, ne, ?_⟩
  generalize hN : askN.take na ++ endN.take ne = N
  have lN : N.length = na + ne := by
    rw [← hN, List.length_append, List.length_take, List.length_take]
    show min na 7 + min ne 4 = _
    omega
  have a4 : F__law_at [L, .int 4] = _ := hz 4 (by decide)
  have a5 : F__law_at [L, .int 5] = _ := hz 5 (by decide)
  have m7 := modD_p (i := z 4) (j := 7) (by omega)
  have m4 := modD_p (i := z 5) (j := 4) (by omega)
  have s1 := cut_take (askN.map .str) na (by show na ≤ 7; omega)
  have s2 := cut_take (endN.map .str) ne (by show ne ≤ 4; omega)
  have eN : (askN.map PyData.str).take na ++ (endN.map PyData.str).take ne = N.map .str := by rw [← hN, List.map_append, List.map_take, List.map_take]
  let ρ0 : En := [.sh L, .sh (.list (cs.map cD)), .sh (.int (na : Int)), .sh (.int (ne : Int)), .sh (.list (N.map .str)), .own [], .un, .un, .un, .un, .un, .un, .un, .un]
  have t1 : (ySet 2 (xB addD (xC (.int 1)) (xB modD (xCl 2 F__law_at (xCons (xVar 0) (xCons (xC (.int 4)) xNil))) (xC (.int 7))))) (env0 14 [L, .list (cs.map cD)]) = .nx [.sh L, .sh (.list (cs.map cD)), .sh (.int (na : Int)), .un, .un, .un, .un, .un, .un, .un, .un, .un, .un, .un] := by
    simp [a4, m7, ena]
  have t2 : (ySet 3 (xB addD (xC (.int 1)) (xB modD (xCl 2 F__law_at (xCons (xVar 0) (xCons (xC (.int 5)) xNil))) (xC (.int 4))))) [.sh L, .sh (.list (cs.map cD)), .sh (.int (na : Int)), .un, .un, .un, .un, .un, .un, .un, .un, .un, .un, .un] = .nx [.sh L, .sh (.list (cs.map cD)), .sh (.int (na : Int)), .sh (.int (ne : Int)), .un, .un, .un, .un, .un, .un, .un, .un, .un, .un] := by
    simp [a5, m4, ene]
  have P1 := range_inv (τ := tgName 6) (body := bA1) (lo := 0) na (fun i ρ => ∃ (ps : Pw) (s6 s7 s8 s9 s10 s11 s12 s13 : Slot), ps.length = i ∧ PlOk cs N na ps ∧ ρ = [.sh L, .sh (.list (cs.map cD)), .sh (.int (na : Int)), .sh (.int (ne : Int)), .sh (.list (N.map .str)), .own ((pw ps).map pD), s6, s7, s8, s9, s10, s11, s12, s13])
    (fun i ρ hi ⟨ps, s6, s7, s8, s9, s10, s11, s12, s13, hl, hp, e⟩ => by
      subst e
      have hNi : N[i]? = some (N.getD i "") := by rw [List.getElem?_eq_getElem (show i < N.length by omega)]; simp [List.getD, List.getElem?_eq_getElem (show i < N.length by omega)]
      obtain ⟨w, x7, x8, x9, x10, x11, x12, hw, e⟩ := ask_step hz h0 h1 (N := N) (na := na) hi (by omega) hna.2 (a := .sh (.int (na : Int))) (b := .sh (.int (ne : Int))) (s7 := s7) (s8 := s8) (s9 := s9) (s10 := s10) (s11 := s11) (s12 := s12) (s13 := s13) (ds := (pw ps).map pD) (by simp [pw]; omega)
      refine ⟨_, _, rfl, ?_, ps ++ [(N.getD i "", w)], .sh (.int (i : Int)), x7, x8, x9, x10, x11, x12, s13, by simp [hl], hp.snoc (by rw [hl]; exact hNi) (by rw [hl]; exact hw), rfl⟩
      simp only [tgName, Int.zero_add, List.set_cons_succ, List.set_cons_zero]
      rw [e]
      simp [pw, pD, -List.getD_eq_getElem?_getD])
    ρ0 ⟨[], _, _, _, _, _, _, _, _, rfl, ⟨rfl, fun i w h => by simp at h⟩, rfl⟩
  obtain ⟨ρ1, e1, ps1, s6, s7, s8, s9, s10, s11, s12, s13, l1, p1, rfl⟩ := P1
  have P2 := range_inv (τ := tgName 6) (body := bA2) (lo := 0) ne (fun i ρ => ∃ (ps : Pw) (s6 s7 s8 s9 s10 s11 s12 s13 : Slot), ps.length = na + i ∧ PlOk cs N na ps ∧ ρ = [.sh L, .sh (.list (cs.map cD)), .sh (.int (na : Int)), .sh (.int (ne : Int)), .sh (.list (N.map .str)), .own ((pw ps).map pD), s6, s7, s8, s9, s10, s11, s12, s13])
    (fun i ρ hi ⟨ps, s6, s7, s8, s9, s10, s11, s12, s13, hl, hp, e⟩ => by
      subst e
      have hNi : N[na + i]? = some (N.getD (na + i) "") := by rw [List.getElem?_eq_getElem (show na + i < N.length by omega)]; simp [List.getD, List.getElem?_eq_getElem (show na + i < N.length by omega)]
      obtain ⟨w, x13, hw, e⟩ := end_step hz h0 (N := N) (na := na) (i := i) (b := .sh (.int (ne : Int))) (by omega) hna.2 (by omega) (s7 := s7) (s8 := s8) (s9 := s9) (s10 := s10) (s11 := s11) (s12 := s12) (s13 := s13) (ds := (pw ps).map pD) (by simp [pw]; omega)
      refine ⟨_, _, rfl, ?_, ps ++ [(N.getD (na + i) "", w)], .sh (.int (i : Int)), s7, s8, s9, s10, s11, s12, x13, by simp [hl]; omega, hp.snoc (by rw [hl]; exact hNi) (by rw [hl]; exact hw), rfl⟩
      simp only [tgName, Int.zero_add, List.set_cons_succ, List.set_cons_zero]
      rw [e]
      simp [pw, pD, -List.getD_eq_getElem?_getD])
    _ ⟨ps1, s6, s7, s8, s9, s10, s11, s12, s13, l1, p1, rfl⟩
  obtain ⟨ρ2, e2, ps2, r6, r7, r8, r9, r10, r11, r12, r13, l2, p2, rfl⟩ := P2
  refine ⟨ps2, hna.1, hna.2, hne.1, hne.2, l2, p2, ?_⟩
  have t5 := for_rng (f := xVar 2) (n := na) (by simp [ρ0]) (by omega) e1
  have t6 := for_rng (f := xVar 3) (n := ne) (by simp) (by omega) e2
  have t3 : (ySet 4 (xB addD (xSl (xL (xLs (xCons (xC (.str "aa")) (xCons (xC (.str "ab")) (xCons (xC (.str "ac")) (xCons (xC (.str "ad")) (xCons (xC (.str "ae")) (xCons (xC (.str "af")) (xCons (xC (.str "ag")) xNil))))))))) xO0 (xO1 (xVar 2))) (xSl (xL (xLs (xCons (xC (.str "end")) (xCons (xC (.str "go")) (xCons (xC (.str "x")) (xCons (xC (.str "lost")) xNil)))))) xO0 (xO1 (xVar 3))))) [.sh L, .sh (.list (cs.map cD)), .sh (.int (na : Int)), .sh (.int (ne : Int)), .un, .un, .un, .un, .un, .un, .un, .un, .un, .un] = .nx [.sh L, .sh (.list (cs.map cD)), .sh (.int (na : Int)), .sh (.int (ne : Int)), .sh (.list (N.map .str)), .un, .un, .un, .un, .un, .un, .un, .un, .un] := by
    have q1 := s1
    have q2 := s2
    simp only [askN, endN, List.map_cons, List.map_nil] at q1 q2
    rw [← eN]
    simp [q1, q2, sizeLine_eq, askN, endN]
    have hmin : min na 7 + min ne 4 ≤ 16777216 := by omega
    simp [hmin]
  have t4 : (yOwn 5 (xLs xNil)) [.sh L, .sh (.list (cs.map cD)), .sh (.int (na : Int)), .sh (.int (ne : Int)), .sh (.list (N.map .str)), .un, .un, .un, .un, .un, .un, .un, .un, .un] = .nx ρ0 := by
    simp [ρ0]
  refine (congrArg fin ((yCons_nx t1).trans ((yCons_nx t2).trans ((yCons_nx t3).trans ((yCons_nx t4).trans ((yCons_nx t5).trans (yCons_nx t6))))))).trans ?_
  simp
/-! ### places by name -/
theorem wAt_get {ps : Pw} (hn : (ps.map (·.1)).Nodup) {i : Nat} {n : Str} {w : Wh} (h : ps[i]? = some (n, w)) : wAt ps n = some w := by
  induction ps generalizing i with
  | nil => simp at h
  | cons p r ih =>
    rw [List.map_cons, List.nodup_cons] at hn
    cases i with
    | zero => simp at h; subst h; simp [wAt]
    | succ j =>
      simp only [List.getElem?_cons_succ] at h
      have hm : n ∈ r.map (·.1) := List.mem_map.mpr ⟨(n, w), List.mem_of_getElem? h, rfl⟩
      have hne : ¬ p.1 = n := fun e => hn.1 (e ▸ hm)
      have := ih hn.2 h
      simpa [wAt, List.find?_cons, hne] using this
theorem wAt_some {ps : Pw} {n : Str} {w : Wh} (h : wAt ps n = some w) : ∃ i : Nat, ps[i]? = some (n, w) := by
  unfold wAt at h
  simp only [Option.map_eq_some_iff] at h
  obtain ⟨p, h1, h2⟩ := h
  have h3 := List.find?_some h1
  have h4 := List.mem_of_find?_eq_some h1
  obtain ⟨i, hi⟩ := List.getElem?_of_mem h4
  refine ⟨i, ?_⟩
  rw [hi]
  obtain ⟨p1, p2⟩ := p
  simp at h3 h2
  rw [h3, h2]
/-- a fair row of places, whole -/
structure Fair (cs : Cs) (na : Nat) (ps : Pw) : Prop where
  nd : (ps.map (·.1)).Nodup
  pl : PlOk cs (ps.map (·.1)) na ps
  lt : na < ps.length
theorem Fair.w {cs : Cs} {na : Nat} {ps : Pw} (h : Fair cs na ps) {i : Nat} {n : Str} {w : Wh} (e : ps[i]? = some (n, w)) : plOk cs (ps.map (·.1)) na i w := h.pl.w i w (by rw [e]; rfl)
/-- from place i, in k steps -/
theorem walk_some {cs : Cs} {na : Nat} {ps ps0 : Pw} (h : Fair cs na ps) (hA : ∀ n w, wAt ps n = some w → wAt ps0 n = some w) (ns : List Int) : ∀ (k i : Nat) (n : Str) (w : Wh), ps[i]? = some (n, w) → ps.length ≤ i + k → ∃ (m : Str) (j : Nat) (v : Wh), walkTo cs ps0 ns k n = some m ∧ ps[j]? = some (m, v) ∧ na ≤ j
  | 0, i, n, w, e, hl => by
    have := (List.getElem?_eq_some_iff.mp e).1
    omega
  | k + 1, i, n, w, e, hl => by
    have hw := hA n w (wAt_get h.nd e)
    have hp := h.w e
    unfold plOk at hp
    unfold walkTo
    rw [hw]
    by_cases hi : i < na
    · rw [if_pos hi] at hp
      obtain ⟨c, q, a, b, rfl, hc, ha, hb⟩ := hp
      dsimp only
      have go : ∀ x, x ∈ (ps.map (·.1)).drop (i + 1) → ∃ (m : Str) (j : Nat) (v : Wh), walkTo cs ps0 ns k x = some m ∧ ps[j]? = some (m, v) ∧ na ≤ j := fun x hx => by
        obtain ⟨t, ht⟩ := List.getElem?_of_mem hx
        rw [List.getElem?_drop, List.getElem?_map] at ht
        simp only [Option.map_eq_some_iff] at ht
        obtain ⟨⟨p1, p2⟩, h1, h2⟩ := ht
        subst h2
        exact walk_some h hA ns k (i + 1 + t) p1 p2 h1 (by omega)
      by_cases hq : q ≤ numAt cs ns c
      · rw [if_pos hq]; exact go a ha
      · rw [if_neg hq]; exact go b hb
    · rw [if_neg hi] at hp
      rcases hp with ⟨t, rfl⟩ | ⟨c, rfl, hc⟩
      · exact ⟨n, i, _, rfl, e, by omega⟩
      · exact ⟨n, i, _, rfl, e, by omega⟩
theorem walk_more {cs : Cs} {ps : Pw} {ns : List Int} : ∀ {k : Nat} {n m : Str}, walkTo cs ps ns k n = some m → walkTo cs ps ns (k + 1) n = some m
  | 0, _, _, h => by cases h
  | k + 1, n, m, h => by
    unfold walkTo at h ⊢
    cases hw : wAt ps n with
    | none => rw [hw] at h; cases h
    | some w =>
      rw [hw] at h
      cases w with
      | ask c q a b => exact walk_more h
      | fin v => exact h
      | score c => exact h
      | pick p r => exact h
      | throw p q r => exact h
theorem walk_le {cs : Cs} {ps : Pw} {ns : List Int} {k j : Nat} {n m : Str} (h : walkTo cs ps ns k n = some m) (l : k ≤ j) : walkTo cs ps ns j n = some m := by
  obtain ⟨d, rfl⟩ : ∃ d, j = k + d := ⟨j - k, by omega⟩
  clear l
  induction d with
  | zero => exact h
  | succ d ih => exact walk_more ih
def bL : En → O := (yIf (xAndT (xT (xB eqD (xB ixD (xB ixD (xVar 1) (xVar 10)) (xC (.int 0))) (xVar 5))) (xT (xB geD (xB ixD (xVar 2) (xVar 10)) (xVar 6)))) (ySet 9 (xVar 7)) yNil)
def tL : En → R Bool := (xT (xB eqD (xB ixD (xB ixD (xB ixD (xVar 0) (xVar 3)) (xC (.int 1))) (xC (.int 0))) (xC (.str "ask"))))
def wL : En → O := (yCons (yUnp (tgTup [4, 5, 6, 7, 8]) (xB ixD (xB ixD (xVar 0) (xVar 3)) (xC (.int 1)))) (yCons (ySet 9 (xVar 8)) (yCons (yFor (xRng1 (xF lenD (xCons (xVar 1) xNil))) (tgName 10) (yIf (xAndT (xT (xB eqD (xB ixD (xB ixD (xVar 1) (xVar 10)) (xC (.int 0))) (xVar 5))) (xT (xB geD (xB ixD (xVar 2) (xVar 10)) (xVar 6)))) (ySet 9 (xVar 7)) yNil)) (ySet 3 (xLM lindexD (xL (xComp [11] (xItems (xVar 0)) (tgName 11) xYes (xB ixD (xVar 11) (xC (.int 0))))) (xVar 9))))))
theorem getI' {ns : List Int} {k : Nat} (h : k < ns.length) : ixD (.list (ns.map .int)) (.int (k : Int)) = .ok (.int (ns.getD k 0)) := getI h
theorem goal_loop {PS : PyData} {cs : Cs} {ns : List Int} (hn : (nms cs).Nodup) (hl : ns.length = cs.length) {c : Str} (hc : c ∈ nms cs) {q : Int} {a b : Str} {s3 s4 s11 : Slot} (hs : cs.length ≤ 1000) (s10 : Slot) : ∃ x10 : Slot,
    yFor (xRng1 (xF lenD (xCons (xVar 1) xNil))) (tgName 10) bL [PS |> Slot.sh, .sh (.list (cs.map cD)), .sh (.list (ns.map .int)), s3, s4, .sh (.str c), .sh (.int q), .sh (.str a), .sh (.str b), .sh (.str b), s10, s11] =
      .nx [PS |> Slot.sh, .sh (.list (cs.map cD)), .sh (.list (ns.map .int)), s3, s4, .sh (.str c), .sh (.int q), .sh (.str a), .sh (.str b), .sh (.str (if q ≤ numAt cs ns c then a else b)), x10, s11] := by
  have P := range_inv (τ := tgName 10) (body := bL) (lo := 0) cs.length (fun k ρ => ∃ x : Slot, ρ = [PS |> Slot.sh, .sh (.list (cs.map cD)), .sh (.list (ns.map .int)), s3, s4, .sh (.str c), .sh (.int q), .sh (.str a), .sh (.str b), .sh (.str (if (nms cs).idxOf c < k ∧ q ≤ numAt cs ns c then a else b)), x, s11])
    (fun k ρ hk ⟨x, e⟩ => by
      subst e
      have e1 : ixD (.list (cs.map cD)) (.int (k : Int)) = .ok (cD cs[k]) := ixD_list (by rw [List.getElem?_map, List.getElem?_eq_getElem hk]; rfl)
      have e2 := getI (ns := ns) (k := k) (by omega)
      refine ⟨_, _, rfl, ?_, .sh (.int (k : Int)), rfl⟩
      simp only [tgName, Int.zero_add, List.set_cons_succ, List.set_cons_zero]
      have hk' : k < (nms cs).length := by rw [List.length_map]; exact hk
      have hx : (cs[k].1 = c) ↔ (nms cs).idxOf c = k := by
        constructor
        · intro h
          have : (nms cs)[k] = c := by simp [nms, h]
          rw [← this]
          exact hn.idxOf_getElem k hk'
        · intro h
          have := List.getElem_idxOf (x := c) (xs := nms cs) (by rw [h]; exact hk')
          simp only [h] at this
          simpa [nms] using this
      have en : (nms cs).idxOf c = k → ns.getD k 0 = numAt cs ns c := fun h => by unfold numAt; rw [h]
      by_cases h1 : cs[k].1 = c
      · have h2 := hx.mp h1
        have h3 := en h2
        by_cases h4 : q ≤ numAt cs ns c
        · simp [bL, e1, cD, h1, e2, h2, h3, h4, -List.getD_eq_getElem?_getD]
        · simp [bL, e1, cD, h1, e2, h2, h3, h4, -List.getD_eq_getElem?_getD]
      · have h2 : ¬ (nms cs).idxOf c = k := fun h => h1 (hx.mpr h)
        have h3 : ((nms cs).idxOf c < k + 1) = ((nms cs).idxOf c < k) := by
          apply propext
          omega
        simp [bL, e1, cD, h1, h3])
    [PS |> Slot.sh, .sh (.list (cs.map cD)), .sh (.list (ns.map .int)), s3, s4, .sh (.str c), .sh (.int q), .sh (.str a), .sh (.str b), .sh (.str b), s10, s11] ⟨s10, by simp⟩
  obtain ⟨ρ', e, x, rfl⟩ := P
  have hi := idx_lt hc
  refine ⟨x, (for_rng (n := cs.length) (by simp) hs e).trans ?_⟩
  simp [hi]
theorem unp5 {f : En → R PyData} {ρ : En} {x0 x1 x2 x3 x4 : PyData} (h : f ρ = .ok (.tuple [x0, x1, x2, x3, x4])) : yUnp (tgTup [4, 5, 6, 7, 8]) f ρ = .nx (((((ρ.set 4 (.sh x0)).set 5 (.sh x1)).set 6 (.sh x2)).set 7 (.sh x3)).set 8 (.sh x4)) := by
  unfold yUnp
  rw [h]
  rfl
theorem led_step {cs : Cs} {na : Nat} {ps : Pw} {ns : List Int} (h : Fair cs na ps) (hN : ∀ n ∈ ps.map (·.1), nmOk n) (hps : ps.length ≤ 1000) (hn : (nms cs).Nodup) (hl : ns.length = cs.length) (hs : cs.length ≤ 1000) {i : Nat} {n c : Str} {q : Int} {a b : Str} (e : ps[i]? = some (n, .ask c q a b)) (hc : c ∈ nms cs)
    {x : Str} (hx : x = if q ≤ numAt cs ns c then a else b) {j : Nat} {w' : Wh} (ej : ps[j]? = some (x, w')) (s4 s5 s6 s7 s8 s9 s10 : Slot) : ∃ x4 x5 x6 x7 x8 x9 x10 : Slot,
    wL [.sh (.list ((pw ps).map pD)), .sh (.list (cs.map cD)), .sh (.list (ns.map .int)), .sh (.int (i : Int)), s4, s5, s6, s7, s8, s9, s10, .un] = .nx [.sh (.list ((pw ps).map pD)), .sh (.list (cs.map cD)), .sh (.list (ns.map .int)), .sh (.int (j : Int)), x4, x5, x6, x7, x8, x9, x10, .un] := by
  have e1 : ixD (.list ((pw ps).map pD)) (.int (i : Int)) = .ok (.tuple [.str n, whD (.ask c q a b)]) := ixD_list (by rw [List.getElem?_map]; unfold pw; rw [List.getElem?_map, e]; rfl)
  have u := unp5 (f := xB ixD (xB ixD (xVar 0) (xVar 3)) (xC (.int 1))) (ρ := [.sh (.list ((pw ps).map pD)), .sh (.list (cs.map cD)), .sh (.list (ns.map .int)), .sh (.int (i : Int)), s4, s5, s6, s7, s8, s9, s10, .un]) (x0 := .str "ask") (x1 := .str c) (x2 := .int q) (x3 := .str a) (x4 := .str b) (by simp [e1])
  have u2 : (ySet 9 (xVar 8)) [.sh (.list ((pw ps).map pD)), .sh (.list (cs.map cD)), .sh (.list (ns.map .int)), .sh (.int (i : Int)), .sh (.str "ask"), .sh (.str c), .sh (.int q), .sh (.str a), .sh (.str b), s9, s10, .un] = .nx [.sh (.list ((pw ps).map pD)), .sh (.list (cs.map cD)), .sh (.list (ns.map .int)), .sh (.int (i : Int)), .sh (.str "ask"), .sh (.str c), .sh (.int q), .sh (.str a), .sh (.str b), .sh (.str b), s10, .un] := by simp
  obtain ⟨x10, u3⟩ := goal_loop (PS := .list ((pw ps).map pD)) hn hl hc (q := q) (a := a) (b := b) (s3 := .sh (.int (i : Int))) (s4 := .sh (.str "ask")) (s11 := .un) hs s10
  rw [← hx] at u3
  have hj : (ps.map (·.1)).idxOf x = j := by
    obtain ⟨hlt, he⟩ := List.getElem?_eq_some_iff.mp ej
    have : (ps.map (·.1))[j]'(by rw [List.length_map]; exact hlt) = x := by simp [he]
    rw [← this]
    exact h.nd.idxOf_getElem j _
  have hxm : x ∈ ps.map (·.1) := List.mem_map.mpr ⟨(x, w'), List.mem_of_getElem? ej, rfl⟩
  have hs1 : SeqAt.shaped (.list ((ps.map (·.1)).map .str)) = true := (Sh.list (k := 0) fun d hd => by
    obtain ⟨y, h1, rfl⟩ := List.mem_map.mp hd
    exact .str (hN y h1) 0).shaped (by decide)
  have hs2 : SeqAt.shaped (.str x) = true := (Sh.str (hN x hxm) 0).shaped (by decide)
  have hl : lindexD ((ps.map (·.1)).map .str) (.str x) = .ok (.int (j : Int)) := by
    unfold lindexD
    rw [hs1, hs2, idx_str x hxm, hj]
    rfl
  have c0 := comp_map (tgName 11) (xB ixD (xVar 11) (xC (.int 0))) [.sh (.list ((pw ps).map pD)), .sh (.list (cs.map cD)), .sh (.list (ns.map .int)), .sh (.int (i : Int)), .sh (.str "ask"), .sh (.str c), .sh (.int q), .sh (.str a), .sh (.str b), .sh (.str x), x10, .un] (fun p : Str × Wh => pD (p.1, whD p.2)) (fun p => .str p.1) (fun p => ⟨_, rfl, by simp [pD]⟩) ps
  have hc0 : (xL (xComp [11] (xItems (xVar 0)) (tgName 11) xYes (xB ixD (xVar 11) (xC (.int 0))))) [.sh (.list ((pw ps).map pD)), .sh (.list (cs.map cD)), .sh (.list (ns.map .int)), .sh (.int (i : Int)), .sh (.str "ask"), .sh (.str c), .sh (.int q), .sh (.str a), .sh (.str b), .sh (.str x), x10, .un] = .ok (.list ((ps.map (·.1)).map .str)) := by
    have hi : (xItems (xVar 0)) [.sh (.list ((pw ps).map pD)), .sh (.list (cs.map cD)), .sh (.list (ns.map .int)), .sh (.int (i : Int)), .sh (.str "ask"), .sh (.str c), .sh (.int q), .sh (.str a), .sh (.str b), .sh (.str x), x10, .un] = .ok (ps.map fun p : Str × Wh => pD (p.1, whD p.2)) := by simp [pw]
    unfold xL xComp
    rw [hi]
    show (R.bind (if (ps.map fun p : Str × Wh => pD (p.1, whD p.2)).length ≤ sizeLine then noX (compO _ _ _ (ps.map fun p : Str × Wh => pD (p.1, whD p.2)) [.sh (.list ((pw ps).map pD)), .sh (.list (cs.map cD)), .sh (.list (ns.map .int)), .sh (.int (i : Int)), .sh (.str "ask"), .sh (.str c), .sh (.int q), .sh (.str a), .sh (.str b), .sh (.str x), x10, .un]) else .bad) _) = _
    rw [if_pos (by rw [List.length_map]; exact sizeLe hps), c0]
    simp [noX]
  refine ⟨.sh (.str "ask"), .sh (.str c), .sh (.int q), .sh (.str a), .sh (.str b), .sh (.str x), x10, (yCons_nx u).trans ((yCons_nx u2).trans ((yCons_nx u3).trans ?_))⟩
  unfold ySet xLM
  rw [hc0]
  simp only [R.bind, bO]
  have hv : (xVar 9) [.sh (.list ((pw ps).map pD)), .sh (.list (cs.map cD)), .sh (.list (ns.map .int)), .sh (.int (i : Int)), .sh (.str "ask"), .sh (.str c), .sh (.int q), .sh (.str a), .sh (.str b), .sh (.str x), x10, .un] = .ok (.str x) := by simp
  rw [hv]
  simp only [hl]
  rfl
theorem led_loop {cs : Cs} {na : Nat} {ps ps0 : Pw} {ns : List Int} (h : Fair cs na ps) (hA : ∀ n w, wAt ps n = some w → wAt ps0 n = some w) (hN : ∀ n ∈ ps.map (·.1), nmOk n) (hps : ps.length ≤ 1000) (hn : (nms cs).Nodup) (hl : ns.length = cs.length) (hs : cs.length ≤ 1000) :
    ∀ (k : Nat) (i : Nat) (n m : Str) (w : Wh) (f : Nat) (s4 s5 s6 s7 s8 s9 s10 : Slot), ps[i]? = some (n, w) → walkTo cs ps0 ns k n = some m → k ≤ f → ∃ (j : Nat) (v : Wh) (x4 x5 x6 x7 x8 x9 x10 : Slot), ps[j]? = some (m, v) ∧ na ≤ j ∧
      whileO tL wL f [.sh (.list ((pw ps).map pD)), .sh (.list (cs.map cD)), .sh (.list (ns.map .int)), .sh (.int (i : Int)), s4, s5, s6, s7, s8, s9, s10, .un] = .nx [.sh (.list ((pw ps).map pD)), .sh (.list (cs.map cD)), .sh (.list (ns.map .int)), .sh (.int (j : Int)), x4, x5, x6, x7, x8, x9, x10, .un]
  | 0, i, n, m, w, f, s4, s5, s6, s7, s8, s9, s10, e, hw, hf => by cases hw
  | k + 1, i, n, m, w, f, s4, s5, s6, s7, s8, s9, s10, e, hw, hf => by
    obtain ⟨f, rfl⟩ : ∃ g, f = g + 1 := ⟨f - 1, by omega⟩
    have hwA := hA n w (wAt_get h.nd e)
    have hp := h.w e
    have e1 : ixD (.list ((pw ps).map pD)) (.int (i : Int)) = .ok (.tuple [.str n, whD w]) := ixD_list (by rw [List.getElem?_map]; unfold pw; rw [List.getElem?_map, e]; rfl)
    unfold plOk at hp
    unfold walkTo at hw
    rw [hwA] at hw
    by_cases hi : i < na
    · rw [if_pos hi] at hp
      obtain ⟨c, q, a, b, rfl, hc, ha, hb⟩ := hp
      dsimp only at hw
      have hx : (if q ≤ numAt cs ns c then a else b) ∈ (ps.map (·.1)).drop (i + 1) := by
        split
        · exact ha
        · exact hb
      obtain ⟨t, ht⟩ := List.getElem?_of_mem hx
      rw [List.getElem?_drop, List.getElem?_map] at ht
      simp only [Option.map_eq_some_iff] at ht
      obtain ⟨⟨p1, p2⟩, h1, h2⟩ := ht
      dsimp only at h2
      rw [← h2] at hw
      obtain ⟨y4, y5, y6, y7, y8, y9, y10, st⟩ := led_step h hN hps hn hl hs e hc (x := p1) h2 h1 s4 s5 s6 s7 s8 s9 s10
      obtain ⟨j, v, x4, x5, x6, x7, x8, x9, x10, g1, g2, g3⟩ := led_loop h hA hN hps hn hl hs k (i + 1 + t) p1 m p2 f y4 y5 y6 y7 y8 y9 y10 h1 hw (by omega)
      refine ⟨j, v, x4, x5, x6, x7, x8, x9, x10, g1, g2, ?_⟩
      have tt : tL [.sh (.list ((pw ps).map pD)), .sh (.list (cs.map cD)), .sh (.list (ns.map .int)), .sh (.int (i : Int)), s4, s5, s6, s7, s8, s9, s10, .un] = .ok true := by simp [tL, e1]
      show bO (tL _) _ (fun z => if z = true then seqO (wL _) (whileO tL wL f) else _) = _
      rw [tt, st]
      exact g3
    · rw [if_neg hi] at hp
      have hm : n = m := by
        rcases hp with ⟨t, rfl⟩ | ⟨c, rfl, hc⟩ <;> · injection hw
      subst hm
      refine ⟨i, w, s4, s5, s6, s7, s8, s9, s10, e, by omega, ?_⟩
      have tt : tL [.sh (.list ((pw ps).map pD)), .sh (.list (cs.map cD)), .sh (.list (ns.map .int)), .sh (.int (i : Int)), s4, s5, s6, s7, s8, s9, s10, .un] = .ok false := by
        rcases hp with ⟨t, rfl⟩ | ⟨c, rfl, hc⟩ <;> simp [tL, e1]
      show bO (tL _) _ (fun z => if z = true then seqO (wL _) (whileO tL wL f) else _) = _
      rw [tt]
      rfl
theorem led_eq {cs : Cs} {na : Nat} {ps ps0 : Pw} {ns : List Int} (h : Fair cs na ps) (hA : ∀ n w, wAt ps n = some w → wAt ps0 n = some w) (hN : ∀ n ∈ ps.map (·.1), nmOk n) (hps : ps.length ≤ 1000) (hn : (nms cs).Nodup) (hl : ns.length = cs.length) (hs : cs.length ≤ 1000) {n : Str} {w : Wh} (e : ps[0]? = some (n, w)) :
    ∃ (j : Nat) (v : Wh), ps[j]? = some (toM cs ps0 ns n, v) ∧ na ≤ j ∧ F__law_led [.list ((pw ps).map pD), .list (cs.map cD), .list (ns.map .int)] = .ok (.tuple [.str (toM cs ps0 ns n), whD v]) := by
  obtain ⟨m, j0, v0, h1, h2, h3⟩ := walk_some h hA ns 1000 0 n w e (by omega)
  have hm : toM cs ps0 ns n = m := by unfold toM; rw [h1]; rfl
  rw [hm]
  obtain ⟨j, v, x4, x5, x6, x7, x8, x9, x10, g1, g2, g3⟩ := led_loop h hA hN hps hn hl hs 1000 0 n m w 1000000 .un .un .un .un .un .un .un e h1 (by decide)
  refine ⟨j, v, g1, g2, ?_⟩
  have e1 : ixD (.list ((pw ps).map pD)) (.int (j : Int)) = .ok (.tuple [.str m, whD v]) := ixD_list (by rw [List.getElem?_map]; unfold pw; rw [List.getElem?_map, g1]; rfl)
  have s1 : (ySet 3 (xC (.int 0))) (env0 12 [.list ((pw ps).map pD), .list (cs.map cD), .list (ns.map .int)]) = .nx [.sh (.list ((pw ps).map pD)), .sh (.list (cs.map cD)), .sh (.list (ns.map .int)), .sh (.int ((0 : Nat) : Int)), .un, .un, .un, .un, .un, .un, .un, .un] := by simp
  refine (congrArg fin ((yCons_nx s1).trans (yCons_nx g3))).trans ?_
  simp [e1]
end G
set_option Elab.async false
set_option linter.all false
set_option maxRecDepth 100000
set_option maxHeartbeats 1000000
namespace G
open PySem PySem.Spec L2 DL
def endD (cs : Cs) (ns : List Int) : Wh → PyData
  | .fin t => .tuple [.str "end", t]
  | .score c => .tuple [.str "end", .tuple [.int (numAt cs ns c), .int 1]]
  | _ => .none
theorem end_eq {cs : Cs} {na : Nat} {N : List Str} {j : Nat} {ns : List Int} (hc : CsOk cs) (hl : ns.length = cs.length) {m : Str} {v : Wh} (hj : na ≤ j) (hp : plOk cs N na j v) : F__law_end [.tuple [.str m, whD v], .list (cs.map cD), .list (ns.map .int)] = .ok (endD cs ns v) := by
  unfold plOk at hp
  rw [if_neg (by omega)] at hp
  rcases hp with ⟨t, rfl⟩ | ⟨c, rfl, hcn⟩
  · simp [F__law_end, m__law_end, endD]
  · have hs : SeqAt.shaped (.list ((nms cs).map .str)) = true := (Sh.list (k := 0) fun d hd => by
      obtain ⟨x, h1, rfl⟩ := List.mem_map.mp hd
      obtain ⟨c, h2, rfl⟩ := List.mem_map.mp h1
      exact .str (hc.nm c h2) 0).shaped (by decide)
    have hs2 : SeqAt.shaped (.str c) = true := by
      obtain ⟨c, h2, rfl⟩ := List.mem_map.mp hcn
      exact (Sh.str (hc.nm c h2) 0).shaped (by decide)
    have e : (cs.map fun c => PyData.str c.1) = (nms cs).map .str := by simp [nms]
    have hl2 : lindexD (cs.map fun c => PyData.str c.1) (.str c) = .ok (.int ((nms cs).idxOf c : Nat)) := by
      unfold lindexD
      rw [e, hs, hs2, idx_str c hcn]
      rfl
    have c0 := comp_map (tgTup [3, 4]) (xVar 3) [.sh (.tuple [.str m, whD (.score c)]), .sh (.list (cs.map cD)), .sh (.list (ns.map .int)), .un, .un] cD (fun c => .str c.1) (fun c => ⟨_, by simp [cD]; rfl, by simp⟩) cs
    have e2 := getI (ns := ns) (k := (nms cs).idxOf c) (by rw [hl]; exact idx_lt hcn)
    have hq : (xLM lindexD (xL (xComp [3, 4] (xItems (xVar 1)) (tgTup [3, 4]) xYes (xVar 3))) (xB ixD (xB ixD (xVar 0) (xC (.int 1))) (xC (.int 1)))) [.sh (.tuple [.str m, whD (.score c)]), .sh (.list (cs.map cD)), .sh (.list (ns.map .int)), .un, .un] = .ok (.int ((nms cs).idxOf c : Nat)) := by
      simp only [xLM, xL, xComp]
      simp at c0
      simp [hc.few, sizeLe hc.few, c0, hl2]
    have s1 : (yIf (xT (xB eqD (xB ixD (xB ixD (xVar 0) (xC (.int 1))) (xC (.int 0))) (xC (.str "end")))) (yRet (xB ixD (xVar 0) (xC (.int 1)))) yNil) (env0 5 [.tuple [.str m, whD (.score c)], .list (cs.map cD), .list (ns.map .int)]) = .nx [.sh (.tuple [.str m, whD (.score c)]), .sh (.list (cs.map cD)), .sh (.list (ns.map .int)), .un, .un] := by simp
    refine (congrArg fin (yCons_nx s1)).trans ?_
    show fin (yRet (xTup (xCons (xC (.str "end")) (xCons (xTup (xCons (xB ixD (xVar 2) (xLM lindexD (xL (xComp [3, 4] (xItems (xVar 1)) (tgTup [3, 4]) xYes (xVar 3))) (xB ixD (xB ixD (xVar 0) (xC (.int 1))) (xC (.int 1))))) (xCons (xC (.int 1)) xNil))) xNil))) _) = _
    have hq2 : (xB ixD (xVar 2) (xLM lindexD (xL (xComp [3, 4] (xItems (xVar 1)) (tgTup [3, 4]) xYes (xVar 3))) (xB ixD (xB ixD (xVar 0) (xC (.int 1))) (xC (.int 1))))) [.sh (.tuple [.str m, whD (.score c)]), .sh (.list (cs.map cD)), .sh (.list (ns.map .int)), .un, .un] = .ok (.int (numAt cs ns c)) := by
      refine (xB_ok (a := .list (ns.map .int)) rfl hq).trans ?_
      rw [e2]; rfl
    unfold yRet xTup xCons
    simp only [hq2]
    simp [sizeLine_eq, endD]
theorem nolist_end {cs : Cs} {na : Nat} {N : List Str} {j : Nat} {v : Wh} (hj : na ≤ j) (hp : plOk cs N na j v) : (∃ t, v = .fin t ∧ nolist t = true) ∨ ∃ c, v = .score c ∧ c ∈ nms cs := by
  unfold plOk at hp
  rw [if_neg (by omega)] at hp
  rcases hp with ⟨t, rfl⟩ | ⟨c, rfl, hcn⟩
  · exact Or.inl ⟨_, rfl, rfl⟩
  · exact Or.inr ⟨c, rfl, hcn⟩
/-- a turn at an end -/
theorem turn_end {cs : Cs} {na : Nat} {N : List Str} {j : Nat} {ps : Pw} {a s5 s6 s7 s8 s9 : Slot} {bs ws : List PyData} {sts : List Std} {n : Str} {ns : List Int} {v : Wh} (hc : CsOk cs) (hl : ns.length = cs.length) (hj : na ≤ j) (hp : plOk cs N na j v) (h : sts[bs.length]? = some (n, ns)) (hw : wAt ps n = some v) (hb : bs.length < 16777216) (hw2 : ws.length < 16777216) :
    ∃ x5 x6 x7 x8 x9 : Slot, t_spread [.sh (gD cs (pw ps)), a, .kn, .owN bs, .owN ws, s5, s6, s7, s8, s9] sts = .nx [.sh (gD cs (pw ps)), a, .kn, .owN (bs ++ [endD cs ns v]), .owN (ws ++ [.list []]), x5, x6, x7, x8, x9] sts := by
  rcases nolist_end hj hp with ⟨t, rfl, ht⟩ | ⟨c, rfl, hcn⟩
  · exact ⟨_, _, _, _, _, turn_fin h hw ht hb hw2⟩
  · exact ⟨_, _, _, _, _, turn_score hc hl hcn h hw hb hw2⟩
theorem fair_ok {cs : Cs} {na : Nat} {ps : Pw} (hc : CsOk cs) (h : Fair cs na ps) (hps : ps.length ≤ 1000) : GOk2 cs ps where
  c := hc
  ask := fun n c m a b e => by
    obtain ⟨i, hi⟩ := wAt_some e
    have hp := h.w hi
    unfold plOk at hp
    by_cases z : i < na
    · rw [if_pos z] at hp
      obtain ⟨c', q, a', b', e', hc', _⟩ := hp
      cases e'
      exact hc'
    · rw [if_neg z] at hp
      rcases hp with ⟨t, e'⟩ | ⟨c', e', _⟩ <;> cases e'
  go := fun n hn ns hl => by
    obtain ⟨i, hi⟩ := List.getElem?_of_mem hn
    rw [List.getElem?_map] at hi
    simp only [Option.map_eq_some_iff] at hi
    obtain ⟨⟨p1, p2⟩, h1, h2⟩ := hi
    dsimp only at h2
    subst h2
    obtain ⟨m, j, v, h3, _⟩ := walk_some h (fun _ _ e => e) ns 1000 i p1 p2 h1 (by omega)
    rw [h3]; rfl
/-- a game of asks and ends alone -/
theorem spread_one {cs : Cs} {na : Nat} {n0 : Str} {w0 : Wh} {ps : Pw} (hc : CsOk cs) (h : Fair cs na ((n0, w0) :: ps)) (hps : ((n0, w0) :: ps).length ≤ 1000) {j : Nat} {v : Wh} (hj : na ≤ j) (ej : ((n0, w0) :: ps)[j]? = some (toM cs ((n0, w0) :: ps) (cs.map fun _ => 0) n0, v)) :
    F_spread [gD cs (pw ((n0, w0) :: ps))] = .ok (.tuple [.list [endD cs (cs.map fun _ => 0) v], .list [stD (toM cs ((n0, w0) :: ps) (cs.map fun _ => 0) n0, cs.map fun _ => 0)], .list [.list []]]) := by
  rw [spread_eq (fair_ok hc h hps), whileS_go (by simp)]
  obtain ⟨x5, x6, x7, x8, x9, e⟩ := turn_end (a := .nw (stD (toM cs ((n0, w0) :: ps) (cs.map fun _ => 0) n0, cs.map fun _ => 0))) (s5 := .un) (s6 := .un) (s7 := .un) (s8 := .un) (s9 := .un) (bs := []) (ws := []) (sts := [(toM cs ((n0, w0) :: ps) (cs.map fun _ => 0) n0, cs.map fun _ => 0)]) hc (by simp) hj (h.w ej) rfl (wAt_get h.nd ej) (by decide) (by decide)
  rw [e]
  rw [seqK_nx]
  rw [whileS_end (by simp)]
  simp [outK]
theorem sh_std {st : Std} (h : nmOk st.1) : Sh 2 (stD st) := .tuple fun d hd => by
  simp at hd
  rcases hd with rfl | rfl
  · exact .str h 1
  · exact .list fun e he => by
      obtain ⟨x, _, rfl⟩ := List.mem_map.mp he
      exact .int x 0
def lenOk (bs : List PyData) (sts : List Std) (ws : List PyData) : Prop := bs.length = sts.length ∧ ws.length = sts.length ∧ sts.length ≤ 1000
theorem told_eq {bs ws : List PyData} {sts : List Std} (hl : lenOk bs sts ws) (hb : ∀ d ∈ bs, Sh 3 d) (hs : ∀ st ∈ sts, nmOk st.1) (hw : ∀ d ∈ ws, Sh 3 d) (hn : ∀ st ∈ sts, st.2.length ≤ 1000) : F__law_told [.tuple [.list bs, .list (sts.map stD), .list ws], .tuple [.list bs, .list (sts.map stD), .list ws]] = .ok (.bool true) := by
  have hsh : Sh 5 (.tuple [.list bs, .list (sts.map stD), .list ws]) := .tuple fun d hd => by
    simp at hd
    rcases hd with rfl | rfl | rfl
    · exact .list hb
    · exact .list fun e he => by
        obtain ⟨st, h1, rfl⟩ := List.mem_map.mp he
        exact (sh_std (hs st h1)).mono (by decide)
    · exact .list hw
  have e1 := neD_refl hsh (by decide)
  have k1 : kitB "tuple" "tuple" = some true := by decide +kernel
  have k2 : kitB "list" "list" = some true := by decide +kernel
  have k3 : kitB "int" "bool" = some false := by decide +kernel
  obtain ⟨l1, l2, l3⟩ := hl
  generalize hd : PyData.tuple [.list bs, .list (sts.map stD), .list ws] = d at e1
  have s1 : (yIf (xOrT (xNotT (xT (xIsi "tuple" (xVar 0)))) (xOrT (xT (xB neD (xF lenD (xCons (xVar 0) xNil)) (xC (.int 3)))) (xT (xB neD (xVar 0) (xVar 1))))) (yRet (xC (.bool false))) yNil) (env0 6 [d, d]) = .nx [.sh d, .sh d, .un, .un, .un, .un] := by
    have e2 : tyD d = "tuple" := by rw [← hd]; rfl
    have e3 : lenD [d] = .ok (.int 3) := by rw [← hd]; rfl
    have h1 : xIsi "tuple" (xVar 0) (env0 6 [d, d]) = .ok (.bool true) := by
      simp only [xIsi, xVar, env0]
      simp [e2, k1]
    have h2 : xB neD (xF lenD (xCons (xVar 0) xNil)) (xC (.int 3)) (env0 6 [d, d]) = .ok (.bool false) := by
      exact (xB_ok (a := .int 3) (b := .int 3) (show lenD [d] = _ from e3) rfl).trans rfl
    have h3 : xB neD (xVar 0) (xVar 1) (env0 6 [d, d]) = .ok (.bool false) := (xB_ok rfl rfl).trans e1
    refine (yIf_no ?_).trans rfl
    unfold xOrT xNotT
    rw [xT_ok h1]
    simp only [R.bind]
    rw [xT_ok h2, xT_ok h3]
    rfl
  have s2 : ∃ x2, (yFor (xItems (xVar 0)) (tgName 2) (yIf (xOrT (xNotT (xT (xIsi "list" (xVar 2)))) (xT (xB neD (xF lenD (xCons (xVar 2) xNil)) (xF lenD (xCons (xB ixD (xVar 0) (xC (.int 0))) xNil))))) (yRet (xC (.bool false))) yNil)) [.sh d, .sh d, .un, .un, .un, .un] = .nx [.sh d, .sh d, x2, .un, .un, .un] := by
    subst hd
    refine ⟨.sh (.list ws), ?_⟩
    simp [tyD, k2, l1, l2]
  obtain ⟨x2, s2⟩ := s2
  have s3 : ∃ x3 x4, (yFor (xItems (xB ixD (xVar 0) (xC (.int 1)))) (tgTup [3, 4]) (yIf (xOrT (xNotT (xT (xIsi "list" (xVar 4)))) (xT (xB inD (xC (.bool true)) (xL (xComp [5] (xItems (xVar 4)) (tgName 5) xYes (xIsi "bool" (xVar 5))))))) (yRet (xC (.bool false))) yNil)) [.sh d, .sh d, x2, .un, .un, .un] = .nx [.sh d, .sh d, x2, x3, x4, .un] := by
    rw [for_items (ds := sts.map stD) (by subst hd; simp)]
    have L := loop_inv (τ := tgTup [3, 4]) (body := (yIf (xOrT (xNotT (xT (xIsi "list" (xVar 4)))) (xT (xB inD (xC (.bool true)) (xL (xComp [5] (xItems (xVar 4)) (tgName 5) xYes (xIsi "bool" (xVar 5))))))) (yRet (xC (.bool false))) yNil)) (sts.map stD) (fun i ρ => ∃ x3 x4, ρ = [.sh d, .sh d, x2, x3, x4, .un]) (fun i e ρ he ⟨x3, x4, hr⟩ => by
      subst hr
      rw [List.getElem?_map] at he
      simp only [Option.map_eq_some_iff] at he
      obtain ⟨st, h1, rfl⟩ := he
      have hm := List.mem_of_getElem? h1
      refine ⟨_, _, rfl, ?_, .sh (.str st.1), .sh (.list (st.2.map .int)), rfl⟩
      simp only [DL.setA, List.set_cons_succ, List.set_cons_zero]
      have c0 := comp_map (tgName 5) (xIsi "bool" (xVar 5)) [.sh d, .sh d, x2, .sh (.str st.1), .sh (.list (st.2.map .int)), .un] PyData.int (fun _ => .bool false) (fun x => ⟨_, rfl, by simp [tyD, k3]⟩) st.2
      have hc : (xL (xComp [5] (xItems (xVar 4)) (tgName 5) xYes (xIsi "bool" (xVar 5)))) [.sh d, .sh d, x2, .sh (.str st.1), .sh (.list (st.2.map .int)), .un] = .ok (.list (st.2.map fun _ => .bool false)) := by
        have hi : (xItems (xVar 4)) [.sh d, .sh d, x2, .sh (.str st.1), .sh (.list (st.2.map .int)), .un] = .ok (st.2.map .int) := by simp
        unfold xL xComp
        rw [hi]
        show (R.bind (if (st.2.map PyData.int).length ≤ sizeLine then noX (compO _ _ _ (st.2.map .int) [.sh d, .sh d, x2, .sh (.str st.1), .sh (.list (st.2.map .int)), .un]) else .bad) _) = _
        rw [if_pos (by rw [List.length_map]; exact sizeLe (hn st hm)), c0]
        rfl
      have hin : inD (.bool true) (.list (st.2.map fun _ => .bool false)) = .ok (.bool false) := by
        have h2 : SeqAt.shaped (.list (st.2.map fun _ => PyData.bool false)) = true := (Sh.list (k := 0) fun e he => by
          obtain ⟨x, _, rfl⟩ := List.mem_map.mp he
          exact .bool _ 0).shaped (by decide)
        have h3 : (st.2.map fun _ => PyData.bool false).any (fun z => PyData.eqv z (.bool true)) = false := by
          rw [List.any_map]
          simp [PyData.eqv]
        unfold inD inB
        dsimp only
        rw [if_pos ⟨by decide +kernel, h2⟩, h3]
      refine (yIf_no ?_).trans rfl
      unfold xOrT xNotT
      rw [xT_ok (b := true) (by simp [tyD, k2])]
      simp only [R.bind]
      rw [xT_ok ((xB_ok rfl hc).trans hin)]
      rfl) [.sh d, .sh d, x2, .un, .un, .un] ⟨_, _, rfl⟩
    obtain ⟨ρ', h1, x3, x4, rfl⟩ := L
    exact ⟨x3, x4, h1⟩
  obtain ⟨x3, x4, s3⟩ := s3
  exact (congrArg fin ((yCons_nx s1).trans ((yCons_nx s2).trans (yCons_nx s3)))).trans rfl
end G
set_option Elab.async false
set_option linter.all false
set_option maxRecDepth 100000
set_option maxHeartbeats 1000000
namespace G
open PySem PySem.Spec L2 DL
abbrev pk : Str := Str.ofString "pick"
def deedsOf (cs : Cs) (z : Nat → Int) : List Deed := (List.range cs.length).map fun k => .set (cs.getD k ("", 0)).1 (z (18 + k) % 70)
def numsOf (cs : Cs) (z : Nat → Int) : List Int := (List.range cs.length).map fun k => least (z (18 + k) % 70) (cs.getD k ("", 0)).2
def rowOf (cs : Cs) (z : Nat → Int) : Row := ⟨"roll", none, deedsOf cs z, "aa"⟩
def game2 (cs : Cs) (z : Nat → Int) (who : Int) (ps : Pw) : Pw := (pk, .pick (.int who) (.list ([rowOf cs z].map rowD))) :: ps
theorem nums_len (cs : Cs) (z : Nat → Int) : (numsOf cs z).length = cs.length := by simp [numsOf]
theorem getD_lt {cs : Cs} {k : Nat} (h : k < cs.length) : cs.getD k ("", 0) = cs[k] := by simp [List.getD, List.getElem?_eq_getElem h]
theorem idx_get {cs : Cs} (hn : (nms cs).Nodup) {k : Nat} (h : k < cs.length) : (nms cs).idxOf (cs.getD k ("", 0)).1 = k := by
  have hk : k < (nms cs).length := by rw [List.length_map]; exact h
  have : (nms cs)[k] = (cs.getD k ("", 0)).1 := by rw [getD_lt h]; simp [nms]
  rw [← this]
  exact hn.idxOf_getElem k hk
theorem done_sets {cs : Cs} (hn : (nms cs).Nodup) (z : Nat → Int) : ∀ i, i ≤ cs.length → doneAll cs 0 (cs.map fun _ => 0) ((List.range i).map fun k => .set (cs.getD k ("", 0)).1 (z (18 + k) % 70)) = ((List.range i).map fun k => least (z (18 + k) % 70) (cs.getD k ("", 0)).2) ++ (cs.map fun _ => (0 : Int)).drop i
  | 0, _ => by simp [doneAll]
  | i + 1, h => by
    have ih := done_sets hn z i (by omega)
    have hi : i < cs.length := by omega
    unfold doneAll at ih ⊢
    rw [List.range_succ, List.map_append, List.map_append, List.foldl_append, ih]
    show putAt cs _ (cs.getD i ("", 0)).1 (z (18 + i) % 70) = _
    unfold putAt mostOf
    rw [idx_get hn hi]
    have hd : (cs.map fun _ => (0 : Int)).drop i = 0 :: (cs.map fun _ => (0 : Int)).drop (i + 1) := by
      rw [List.drop_eq_getElem_cons (by rw [List.length_map]; exact hi)]
      simp
    rw [hd, List.set_append_right _ _ (by simp)]
    simp
theorem done_all {cs : Cs} (hn : (nms cs).Nodup) (z : Nat → Int) : doneAll cs 0 (cs.map fun _ => 0) (deedsOf cs z) = numsOf cs z := by
  have := done_sets hn z cs.length (Nat.le_refl _)
  rw [List.drop_of_length_le (by rw [List.length_map]; exact Nat.le_refl _), List.append_nil] at this
  exact this
section
variable {cs : Cs} {na : Nat} {ps : Pw} {z : Nat → Int} {who : Int}
theorem g2_at (hp : pk ∉ ps.map (·.1)) : ∀ n w, wAt ps n = some w → wAt (game2 cs z who ps) n = some w := fun n w h => by
  obtain ⟨i, hi⟩ := wAt_some h
  have hm : n ∈ ps.map (·.1) := List.mem_map.mpr ⟨(n, w), List.mem_of_getElem? hi, rfl⟩
  have hne : ¬ pk = n := fun e => hp (e ▸ hm)
  unfold wAt game2 at *
  rw [List.find?_cons]
  simp only [hne, decide_false]
  exact h
theorem g2_pick : wAt (game2 cs z who ps) pk = some (.pick (.int who) (.list ([rowOf cs z].map rowD))) := by simp [wAt, game2]
theorem g2_ok (hc : CsOk cs) (h : Fair cs na ps) (hps : ps.length ≤ 900) (hp : pk ∉ ps.map (·.1)) : GOk2 cs (game2 cs z who ps) where
  c := hc
  ask := fun n c m a b e => by
    by_cases hn : n = pk
    · subst hn; rw [g2_pick] at e; cases e
    · have e' : wAt ps n = some (.ask c m a b) := by
        unfold wAt game2 at *
        rw [List.find?_cons] at e
        have hne : ¬ pk = n := fun q => hn q.symm
        simp only [hne, decide_false] at e
        exact e
      exact (fair_ok hc h (by omega)).ask n c m a b e'
  go := fun n hn ns hl => by
    by_cases hq : n = pk
    · subst hq
      unfold walkTo
      rw [g2_pick]; rfl
    · have hm : n ∈ ps.map (·.1) := by
        unfold game2 at hn
        rw [List.map_cons] at hn
        rcases List.mem_cons.mp hn with q | q
        · exact absurd q hq
        · exact q
      obtain ⟨i, hi⟩ := List.getElem?_of_mem hm
      rw [List.getElem?_map] at hi
      simp only [Option.map_eq_some_iff] at hi
      obtain ⟨⟨p1, p2⟩, h1, h2⟩ := hi
      dsimp only at h2
      subst h2
      obtain ⟨m, j, v, h3, _⟩ := walk_some h (g2_at (cs := cs) (z := z) (who := who) hp) ns 1000 i p1 p2 h1 (by omega)
      rw [h3]; rfl
theorem spread_two (hc : CsOk cs) (hn : (nms cs).Nodup) (h : Fair cs na ps) (hps : ps.length ≤ 900) (hp : pk ∉ ps.map (·.1)) (haa : ("aa" : Str) ∈ ps.map (·.1)) {j : Nat} {v : Wh} (hj : na ≤ j) (ej : ps[j]? = some (toM cs (game2 cs z who ps) (numsOf cs z) "aa", v)) :
    F_spread [gD cs (pw (game2 cs z who ps))] = .ok (.tuple [.list [.tuple [.str pk, .int who, .list [.int 1]], endD cs (numsOf cs z) v], .list [stD (pk, cs.map fun _ => 0), stD (toM cs (game2 cs z who ps) (numsOf cs z) "aa", numsOf cs z)], .list [.list [.str "roll"], .list []]]) := by
  have g := g2_ok (z := z) (who := who) hc h hps hp
  have t0 : toM cs (game2 cs z who ps) (cs.map fun _ => 0) pk = pk := by
    unfold toM walkTo
    rw [g2_pick]; rfl
  have sp := spread_eq (n0 := pk) (w0 := .pick (.int who) (.list ([rowOf cs z].map rowD))) (ps := ps) g
  have e0 : (pk, Wh.pick (.int who) (.list ([rowOf cs z].map rowD))) :: ps = game2 cs z who ps := rfl
  rw [e0, t0] at sp
  rw [sp, whileS_go (by simp)]
  have hr : ∀ r ∈ [rowOf cs z], RowOk cs (game2 cs z who ps) r := fun r hr => by
    rw [List.mem_singleton] at hr
    subst hr
    refine ⟨fun c b n e => (by cases e), fun d hd => ?_, ?_⟩
    · unfold rowOf deedsOf at hd
      obtain ⟨k, hk, rfl⟩ := List.mem_map.mp hd
      rw [List.mem_range] at hk
      show (cs.getD k ("", 0)).1 ∈ nms cs
      rw [getD_lt hk]
      exact List.mem_map.mpr ⟨_, List.getElem_mem hk, rfl⟩
    · show ("aa" : Str) ∈ (pk :: ps.map (·.1))
      exact List.mem_cons_of_mem _ haa
  have tp := turn_pick (a := .nw (stD (pk, cs.map fun _ => 0))) (s5 := .un) (s6 := .un) (s7 := .un) (s8 := .un) (s9 := .un) (bs := []) (wss := []) (sts := [(pk, cs.map fun _ => 0)]) (n := pk) (ns := cs.map fun _ => 0) g (by simp) hr (by show 1 ≤ 120; decide) (by show 1 ≤ 1000; decide) (p := .int who) rfl rfl g2_pick (by decide) (by decide)
  have rt : rowTo cs (game2 cs z who ps) (cs.map fun _ => 0) 0 (rowOf cs z) = (toM cs (game2 cs z who ps) (numsOf cs z) "aa", numsOf cs z) := by
    unfold rowTo rowOf
    rw [done_all hn z]
  have hne : toM cs (game2 cs z who ps) (numsOf cs z) "aa" ≠ pk := fun q => by
    apply hp
    rw [← q]
    exact List.mem_map.mpr ⟨_, List.mem_of_getElem? ej, rfl⟩
  have pm : pickM cs (game2 cs z who ps) (cs.map fun _ => 0) [rowOf cs z] [(pk, cs.map fun _ => 0)] = some ([Str.ofString "roll"], [1], [(pk, cs.map fun _ => 0), (toM cs (game2 cs z who ps) (numsOf cs z) "aa", numsOf cs z)]) := by
    unfold pickM
    have ho : openM cs (cs.map fun _ => 0) (rowOf cs z).cond = true := rfl
    rw [if_pos ho, rt]
    have : lookM (toM cs (game2 cs z who ps) (numsOf cs z) "aa", numsOf cs z) [(pk, cs.map fun _ => 0)] = some (1, [(pk, cs.map fun _ => 0), (toM cs (game2 cs z who ps) (numsOf cs z) "aa", numsOf cs z)]) := by
      unfold lookM
      rw [if_neg (by simp [hne]), if_pos (by show 1 < 120; decide)]
      rfl
    rw [this]
    rfl
  rw [pm] at tp
  dsimp only at tp
  rw [if_neg (by simp)] at tp
  rw [tp]
  rw [seqK_nx]
  rw [whileS_go (by simp)]
  obtain ⟨x5, x6, x7, x8, x9, e⟩ := turn_end (ps := game2 cs z who ps) (a := .nw (stD (pk, cs.map fun _ => 0))) (s5 := .nw (stD (pk, cs.map fun _ => 0))) (s6 := .sh (whD (.pick (.int who) (.list ([rowOf cs z].map rowD))))) (s7 := .nw (.list ([Str.ofString "roll"].map .str))) (s8 := .nw (.tuple [.str "pick", .int who, .list ([1].map fun k => .int (k : Nat))])) (s9 := .nw (.list ([1].map fun k => .int (k : Nat))))
    (bs := [] ++ [.tuple [.str "pick", .int who, .list ([1].map fun k => .int (k : Nat))]]) (ws := [] ++ [.list ([Str.ofString "roll"].map .str)]) (sts := [(pk, cs.map fun _ => 0), (toM cs (game2 cs z who ps) (numsOf cs z) "aa", numsOf cs z)]) hc (nums_len cs z) hj (h.w ej) rfl (g2_at hp _ _ (wAt_get h.nd ej)) (by show 1 < 16777216; decide) (by show 1 < 16777216; decide)
  rw [e]
  rw [seqK_nx]
  rw [whileS_end (by simp)]
  simp [outK]
end
end G
set_option Elab.async false
set_option linter.all false
set_option maxRecDepth 100000
set_option maxHeartbeats 1000000
namespace G
open PySem PySem.Spec L2 DL
def q1 : En → O := (ySet 1 (xCl 1 F__law_counts (xCons (xVar 0) xNil)))
def q2 : En → O := (ySet 2 (xCl 2 F__law_asks (xCons (xVar 0) (xCons (xVar 1) xNil))))
def q3 : En → O := (ySet 3 (xL (xComp [4] (xItems (xVar 1)) (tgName 4) xYes (xC (.int 0)))))
def q4 : En → O := (ySet 5 (xCl 3 F__law_led (xCons (xVar 2) (xCons (xVar 1) (xCons (xVar 3) xNil)))))
def q5 : En → O := (ySet 6 (xTup (xCons (xL (xLs (xCons (xCl 3 F__law_end (xCons (xVar 5) (xCons (xVar 1) (xCons (xVar 3) xNil)))) xNil))) (xCons (xL (xLs (xCons (xTup (xCons (xB ixD (xVar 5) (xC (.int 0))) (xCons (xVar 3) xNil))) xNil))) (xCons (xL (xLs (xCons (xL (xLs xNil)) xNil))) xNil)))))
def q6 : En → O := (ySet 7 (xTup (xCons (xL (xFL listD (xCons (xVar 1) xNil))) (xCons (xL (xFL listD (xCons (xVar 2) xNil))) xNil))))
def q7 : En → O := (yIf (xOrT (xNotT (xT (xCl 2 F__law_told (xCons (xCl 1 F_spread (xCons (xVar 7) xNil)) (xCons (xVar 6) xNil))))) (xT (xB neD (xVar 7) (xTup (xCons (xVar 1) (xCons (xVar 2) xNil)))))) (yRet (xC (.bool false))) yNil)
def q8 : En → O := (yOwn 8 (xLs xNil))
def q9 : En → O := (yOwn 9 (xLs xNil))
def q10 : En → O := (yFor (xRng1 (xF lenD (xCons (xVar 1) xNil))) (tgName 10) (yCons (ySet 11 (xB modD (xCl 2 F__law_at (xCons (xVar 0) (xCons (xB addD (xC (.int 18)) (xVar 10)) xNil))) (xC (.int 70)))) (yCons (yApp 8 (xTup (xCons (xC (.str "set")) (xCons (xB ixD (xB ixD (xVar 1) (xVar 10)) (xC (.int 0))) (xCons (xVar 11) xNil))))) (yApp 9 (xF minD (xCons (xVar 11) (xCons (xB ixD (xB ixD (xVar 1) (xVar 10)) (xC (.int 1))) xNil)))))))
def q11 : En → O := (ySet 12 (xB addD (xC (.int 1)) (xB modD (xCl 2 F__law_at (xCons (xVar 0) (xCons (xC (.int 22)) xNil))) (xC (.int 2)))))
def q12 : En → O := (yFrz 9 (ySet 13 (xCl 3 F__law_led (xCons (xVar 2) (xCons (xVar 1) (xCons (xVar 9) xNil))))))
def q13 : En → O := (yFrz 8 (ySet 14 (xTup (xCons (xVar 1) (xCons (xB addD (xL (xLs (xCons (xTup (xCons (xC (.str "pick")) (xCons (xTup (xCons (xC (.str "pick")) (xCons (xVar 12) (xCons (xL (xLs (xCons (xTup (xCons (xC (.str "roll")) (xCons (xC .none) (xCons (xVar 8) (xCons (xC (.str "aa")) xNil))))) xNil))) xNil)))) xNil))) xNil))) (xVar 2)) xNil)))))
def q14 : En → O := (yFrz 9 (ySet 15 (xL (xLs (xCons (xTup (xCons (xC (.str "pick")) (xCons (xVar 3) xNil))) (xCons (xTup (xCons (xB ixD (xVar 13) (xC (.int 0))) (xCons (xVar 9) xNil))) xNil))))))
def q15 : En → O := (yFrz 9 (ySet 6 (xTup (xCons (xL (xLs (xCons (xTup (xCons (xC (.str "pick")) (xCons (xVar 12) (xCons (xL (xLs (xCons (xC (.int 1)) xNil))) xNil)))) (xCons (xCl 3 F__law_end (xCons (xVar 13) (xCons (xVar 1) (xCons (xVar 9) xNil)))) xNil)))) (xCons (xVar 15) (xCons (xL (xLs (xCons (xL (xLs (xCons (xC (.str "roll")) xNil))) (xCons (xL (xLs xNil)) xNil)))) xNil))))))
def q16 : En → O := (yTail (xCl 1 F_spread (xCons (xVar 14) xNil)) (xNotT (xT (xCl 2 F__law_told (xCons (xVar 16) (xCons (xVar 6) xNil))))) (xCl 2 F__law_told (xCons (xCl 1 F_spread (xCons (xVar 14) xNil)) (xCons (xVar 6) xNil))))
def csAll : List Str := [Str.ofString "turn", Str.ofString "b", Str.ofString "pay"]
theorem cs_names (z : Nat → Int) : nms (csOf z) = csAll.take (1 + z 0 % 3).toNat := by
  unfold nms csOf csAll
  rw [List.map_take]
  rfl
theorem csAll_nd : csAll.Nodup := by decide +kernel
theorem cs_nd (z : Nat → Int) : (nms (csOf z)).Nodup := by
  rw [cs_names]
  exact (List.take_sublist _ _).nodup csAll_nd
theorem cs_len (z : Nat → Int) : 0 < (csOf z).length ∧ (csOf z).length ≤ 3 := by
  unfold csOf
  rw [List.length_take]
  show 0 < min _ 3 ∧ min _ 3 ≤ 3
  omega
theorem nmAll : ∀ x ∈ csAll ++ (askN ++ endN), nmOk x := by
  unfold nmOk csAll askN endN
  decide +kernel
theorem cs_ok (z : Nat → Int) : CsOk (csOf z) where
  few := by have := cs_len z; omega
  nm := fun c hc => by
    refine nmAll c.1 (List.mem_append_left _ ?_)
    have : c.1 ∈ nms (csOf z) := List.mem_map.mpr ⟨c, hc, rfl⟩
    rw [cs_names] at this
    exact List.mem_of_mem_take this
theorem cs_most (z : Nat → Int) : ∀ c ∈ csOf z, 1 ≤ c.2 := fun c hc => by
  unfold csOf at hc
  have := List.mem_of_mem_take hc
  simp at this
  rcases this with rfl | rfl | rfl <;> dsimp only <;> omega
theorem all_nd : (askN ++ endN).Nodup := by decide +kernel
theorem pl_names {cs : Cs} {na ne : Nat} {ps : Pw} (hl : ps.length = na + ne) (h7 : na ≤ 7) (h4 : ne ≤ 4) (h : PlOk cs (askN.take na ++ endN.take ne) na ps) : ps.map (·.1) = askN.take na ++ endN.take ne := by
  rw [h.n]
  apply List.take_of_length_le
  rw [List.length_append, List.length_take, List.length_take]
  show min na 7 + min ne 4 ≤ _
  omega
theorem fair_of {cs : Cs} {na ne : Nat} {ps : Pw} (h1 : 1 ≤ na) (h7 : na ≤ 7) (e1 : 1 ≤ ne) (h4 : ne ≤ 4) (hl : ps.length = na + ne) (h : PlOk cs (askN.take na ++ endN.take ne) na ps) : Fair cs na ps ∧ (∀ n ∈ ps.map (·.1), nmOk n) ∧ pk ∉ ps.map (·.1) ∧ ∃ w, ps[0]? = some (("aa" : Str), w) := by
  have e := pl_names hl h7 h4 h
  have sub : (askN.take na ++ endN.take ne).Sublist (askN ++ endN) := (List.take_sublist _ _).append (List.take_sublist _ _)
  refine ⟨⟨?_, ?_, by omega⟩, fun n hn => ?_, fun hq => ?_, ?_⟩
  · rw [e]; exact sub.nodup all_nd
  · rw [e]; exact h
  · rw [e] at hn
    exact nmAll n (List.mem_append_right _ (sub.subset hn))
  · rw [e] at hq
    have := sub.subset hq
    revert this
    decide +kernel
  · have h0 : 0 < ps.length := by omega
    have h2 : (ps.map (·.1))[0]? = some ("aa" : Str) := by
      rw [e]
      obtain ⟨k, rfl⟩ : ∃ k, na = k + 1 := ⟨na - 1, by omega⟩
      rfl
    rw [List.getElem?_map] at h2
    simp only [Option.map_eq_some_iff] at h2
    obtain ⟨⟨p1, p2⟩, h3, h4⟩ := h2
    dsimp only at h4
    subst h4
    exact ⟨p2, h3⟩
theorem sh_wh {cs : Cs} (hc : CsOk cs) {N : List Str} (hN : ∀ n ∈ N, nmOk n) {na i : Nat} {w : Wh} (h : plOk cs N na i w) : Sh 2 (whD w) := by
  have nm : ∀ c, c ∈ nms cs → nmOk c := fun c hcc => by
    obtain ⟨x, hx, rfl⟩ := List.mem_map.mp hcc
    exact hc.nm x hx
  unfold plOk at h
  have k1 : nmOk "ask" := by unfold nmOk; decide +kernel
  have k2 : nmOk "end" := by unfold nmOk; decide +kernel
  have k3 : nmOk "score" := by unfold nmOk; decide +kernel
  by_cases z : i < na
  · rw [if_pos z] at h
    obtain ⟨c, q, a, b, rfl, h1, h2, h3⟩ := h
    refine .tuple fun d hd => ?_
    simp at hd
    rcases hd with rfl | rfl | rfl | rfl | rfl
    · exact .str k1 1
    · exact .str (nm c h1) 1
    · exact .int q 1
    · exact .str (hN a (List.mem_of_mem_drop h2)) 1
    · exact .str (hN b (List.mem_of_mem_drop h3)) 1
  · rw [if_neg z] at h
    rcases h with ⟨t, rfl⟩ | ⟨c, rfl, h1⟩
    · refine .tuple fun d hd => ?_
      simp at hd
      rcases hd with rfl | rfl
      · exact .str k2 1
      · refine .tuple fun e he => ?_
        simp at he
        rcases he with rfl | rfl
        · exact .int t 0
        · exact .int 1 0
    · refine .tuple fun d hd => ?_
      simp at hd
      rcases hd with rfl | rfl
      · exact .str k3 1
      · exact .str (nm c h1) 1
theorem sh_game {cs : Cs} (hc : CsOk cs) {na : Nat} {ps : Pw} (h : Fair cs na ps) (hN : ∀ n ∈ ps.map (·.1), nmOk n) : Sh 5 (gD cs (pw ps)) := by
  refine .tuple fun d hd => ?_
  simp at hd
  rcases hd with rfl | rfl
  · refine Sh.mono (k := 2) (.list fun e he => ?_) (by decide)
    obtain ⟨c, h1, rfl⟩ := List.mem_map.mp he
    refine .tuple fun f hf => ?_
    simp at hf
    rcases hf with rfl | rfl
    · exact .str (hc.nm c h1) 0
    · exact .int _ 0
  · refine .list fun e he => ?_
    obtain ⟨p, h1, rfl⟩ := List.mem_map.mp he
    obtain ⟨q, h2, rfl⟩ := List.mem_map.mp h1
    obtain ⟨i, hi⟩ := List.getElem?_of_mem h2
    refine .tuple fun f hf => ?_
    simp at hf
    rcases hf with rfl | rfl
    · exact .str (hN _ (List.mem_map.mpr ⟨q, h2, rfl⟩)) 2
    · exact sh_wh hc hN (h.w (i := i) (n := q.1) (w := q.2) hi)
end G
set_option Elab.async false
set_option linter.all false
set_option maxRecDepth 100000
set_option maxHeartbeats 1000000
namespace G
open PySem PySem.Spec L2 DL
def tk : En → O := (yCons (ySet 11 (xB modD (xCl 2 F__law_at (xCons (xVar 0) (xCons (xB addD (xC (.int 18)) (xVar 10)) xNil))) (xC (.int 70)))) (yCons (yApp 8 (xTup (xCons (xC (.str "set")) (xCons (xB ixD (xB ixD (xVar 1) (xVar 10)) (xC (.int 0))) (xCons (xVar 11) xNil))))) (yApp 9 (xF minD (xCons (xVar 11) (xCons (xB ixD (xB ixD (xVar 1) (xVar 10)) (xC (.int 1))) xNil))))))
theorem draw_loop {L : PyData} {z : Nat → Int} (hz : Draws L z) {cs : Cs} (hs : cs.length ≤ 3) {a2 a3 a4 a5 a6 a7 a12 a13 a14 a15 a16 : Slot} : ∃ x10 x11 : Slot, bareS x10 = true ∧ bareS x11 = true ∧
    q10 [.sh L, .sh (.list (cs.map cD)), a2, a3, a4, a5, a6, a7, .own [], .own [], .un, .un, a12, a13, a14, a15, a16] =
      .nx [.sh L, .sh (.list (cs.map cD)), a2, a3, a4, a5, a6, a7, .own ((deedsOf cs z).map deedD), .own ((numsOf cs z).map .int), x10, x11, a12, a13, a14, a15, a16] := by
  have P := range_inv (τ := tgName 10) (body := tk) (lo := 0) cs.length (fun k ρ => ∃ x y : Slot, bareS x = true ∧ bareS y = true ∧ ρ = [.sh L, .sh (.list (cs.map cD)), a2, a3, a4, a5, a6, a7, .own (((List.range k).map fun k => Deed.set (cs.getD k ("", 0)).1 (z (18 + k) % 70)).map deedD), .own (((List.range k).map fun k => least (z (18 + k) % 70) (cs.getD k ("", 0)).2).map .int), x, y, a12, a13, a14, a15, a16])
    (fun k ρ hk ⟨x, y, _, _, e⟩ => by
      subst e
      have e1 : ixD (.list (cs.map cD)) (.int (k : Int)) = .ok (cD (cs.getD k ("", 0))) := ixD_list (by rw [List.getElem?_map, List.getElem?_eq_getElem hk, getD_lt hk]; rfl)
      have ea : F__law_at [L, .int (18 + (k : Int))] = _ := hz (18 + k) (by omega)
      have m := modD_p (i := z (18 + k)) (j := 70) (by omega)
      refine ⟨_, _, rfl, ?_, .sh (.int (k : Int)), .sh (.int (z (18 + k) % 70)), rfl, rfl, rfl⟩
      simp only [tgName, Int.zero_add, List.set_cons_succ, List.set_cons_zero]
      have hk1 : k < 16777216 := by omega
      rw [List.range_succ]
      simp [tk, ea, m, e1, cD, sizeLine_eq, hk1, least, -List.getD_eq_getElem?_getD])
    [.sh L, .sh (.list (cs.map cD)), a2, a3, a4, a5, a6, a7, .own [], .own [], .un, .un, a12, a13, a14, a15, a16] ⟨.un, .un, rfl, rfl, rfl⟩
  obtain ⟨ρ', e, x, y, b1, b2, rfl⟩ := P
  exact ⟨x, y, b1, b2, for_rng (n := cs.length) (by simp) (by omega) e⟩
theorem comp_zero {cs : Cs} (hs : cs.length ≤ 1000) {ρ : En} (h : (xItems (xVar 1)) ρ = .ok (cs.map cD)) (ht : ∀ d, ∃ ρ1, tgName 4 d (wipeE ρ [4]) = .ok ρ1) : (xL (xComp [4] (xItems (xVar 1)) (tgName 4) xYes (xC (.int 0)))) ρ = .ok (.list ((cs.map fun _ => (0 : Int)).map .int)) := by
  have c0 := comp_map (tgName 4) (xC (.int 0)) (wipeE ρ [4]) cD (fun _ => .int 0) (fun c => by obtain ⟨ρ1, h1⟩ := ht (cD c); exact ⟨ρ1, h1, rfl⟩) cs
  have z0 : cs.map (fun _ => PyData.int 0) = (cs.map fun _ => (0 : Int)).map .int := by rw [List.map_map]; rfl
  unfold xL xComp
  rw [h]
  show (R.bind (if (cs.map cD).length ≤ sizeLine then noX (compO _ _ _ (cs.map cD) (wipeE ρ [4])) else .bad) _) = _
  rw [if_pos (by rw [List.length_map]; exact sizeLe hs), c0, ← z0]
  rfl
theorem law_true : LawTrue F_law := by
  intro scr _
  generalize hL : PyData.list (scr.map .int) = L
  obtain ⟨z, hz⟩ := draws scr
  rw [hL] at hz
  have A1 := counts_eq hz
  have hc := cs_ok z
  have hl3 := cs_len z
  obtain ⟨na, ne, ps, g1, g7, ge1, ge4, gl, gp, A2⟩ := asks_eq hz hl3.1 (cs_most z)
  obtain ⟨fair, hN, hpk, w0, hw0⟩ := fair_of g1 g7 ge1 ge4 gl gp
  have hnd := cs_nd z
  generalize csOf z = cs at *
  have hps : ps.length ≤ 900 := by omega
  obtain ⟨r, rfl⟩ : ∃ r, ps = (("aa" : Str), w0) :: r := by
    cases ps with
    | nil => simp at hw0
    | cons p r => simp at hw0; subst hw0; exact ⟨r, rfl⟩
  generalize hPS : (("aa" : Str), w0) :: r = ps at *
  obtain ⟨j1, v1, h1a, h1b, h1c⟩ := led_eq (ns := cs.map fun _ => 0) fair (fun _ _ e => e) hN (by omega) hnd (by simp) (by omega) hw0
  obtain ⟨j2, v2, h2a, h2b, h2c⟩ := led_eq (ns := numsOf cs z) (ps0 := game2 cs z (1 + z 22 % 2) ps) fair (g2_at hpk) hN (by omega) hnd (nums_len cs z) (by omega) hw0
  have E1 := end_eq (m := toM cs ps (cs.map fun _ => 0) "aa") hc (ns := cs.map fun _ => 0) (by simp) h1b (fair.w h1a)
  have E2 := end_eq (m := toM cs (game2 cs z (1 + z 22 % 2) ps) (numsOf cs z) "aa") hc (nums_len cs z) h2b (fair.w h2a)
  have haa : ("aa" : Str) ∈ ps.map (·.1) := List.mem_map.mpr ⟨_, List.mem_of_getElem? hw0, rfl⟩
  have S1 : F_spread [gD cs (pw ps)] = .ok (.tuple [.list [endD cs (cs.map fun _ => 0) v1], .list ([(toM cs ps (cs.map fun _ => 0) "aa", cs.map fun _ => 0)].map stD), .list [.list []]]) := by
    subst hPS
    exact spread_one hc fair (by omega) h1b h1a
  have S2 : F_spread [gD cs (pw (game2 cs z (1 + z 22 % 2) ps))] = .ok (.tuple [.list [.tuple [.str pk, .int (1 + z 22 % 2), .list [.int 1]], endD cs (numsOf cs z) v2], .list ([(pk, cs.map fun _ => 0), (toM cs (game2 cs z (1 + z 22 % 2) ps) (numsOf cs z) "aa", numsOf cs z)].map stD), .list [.list [.str "roll"], .list []]]) := spread_two hc hnd fair hps hpk haa h2b h2a
  have kpk : nmOk pk := by unfold nmOk; decide +kernel
  have kro : nmOk "roll" := by unfold nmOk; decide +kernel
  have ken : nmOk "end" := by unfold nmOk; decide +kernel
  have shE : ∀ (ns : List Int) (j : Nat) (v : Wh), na ≤ j → plOk cs (ps.map (·.1)) na j v → Sh 3 (endD cs ns v) := fun ns j v hj hp => by
    unfold plOk at hp
    rw [if_neg (by omega)] at hp
    rcases hp with ⟨t, rfl⟩ | ⟨c, rfl, hcn⟩
    · refine Sh.mono (k := 2) (.tuple fun d hd => ?_) (by decide)
      simp at hd
      rcases hd with rfl | rfl
      · exact .str ken 1
      · exact .tuple fun e he => by
          simp at he
          rcases he with rfl | rfl
          · exact .int _ 0
          · exact .int _ 0
    · refine Sh.mono (k := 2) (.tuple fun d hd => ?_) (by decide)
      simp at hd
      rcases hd with rfl | rfl
      · exact .str ken 1
      · exact .tuple fun e he => by
          simp at he
          rcases he with rfl | rfl
          · exact .int _ 0
          · exact .int _ 0
  have n1 : nmOk (toM cs ps (cs.map fun _ => 0) "aa") := hN _ (List.mem_map.mpr ⟨_, List.mem_of_getElem? h1a, rfl⟩)
  have n2 : nmOk (toM cs (game2 cs z (1 + z 22 % 2) ps) (numsOf cs z) "aa") := hN _ (List.mem_map.mpr ⟨_, List.mem_of_getElem? h2a, rfl⟩)
  have T1 := told_eq (bs := [endD cs (cs.map fun _ => 0) v1]) (sts := [(toM cs ps (cs.map fun _ => 0) "aa", cs.map fun _ => 0)]) (ws := [.list []]) ⟨rfl, rfl, by simp⟩
    (fun d hd => by simp at hd; subst hd; exact shE _ _ _ h1b (fair.w h1a)) (fun st hst => by simp at hst; subst hst; exact n1) (fun d hd => by simp at hd; subst hd; exact .list (k := 2) fun _ h => (by cases h)) (fun st hst => by simp at hst; subst hst; simp; omega)
  have T2 := told_eq (bs := [.tuple [.str pk, .int (1 + z 22 % 2), .list [.int 1]], endD cs (numsOf cs z) v2]) (sts := [(pk, cs.map fun _ => 0), (toM cs (game2 cs z (1 + z 22 % 2) ps) (numsOf cs z) "aa", numsOf cs z)]) (ws := [.list [.str "roll"], .list []]) ⟨rfl, rfl, by simp⟩
    (fun d hd => by
      simp at hd
      rcases hd with rfl | rfl
      · refine Sh.mono (k := 2) (.tuple fun e he => ?_) (by decide)
        simp at he
        rcases he with rfl | rfl | rfl
        · exact .str kpk 1
        · exact .int _ 1
        · exact .list fun f hf => by simp at hf; subst hf; exact .int 1 0
      · exact shE _ _ _ h2b (fair.w h2a))
    (fun st hst => by
      simp at hst
      rcases hst with rfl | rfl
      · exact kpk
      · exact n2)
    (fun d hd => by
      simp at hd
      rcases hd with rfl | rfl
      · exact .list (k := 2) fun e he => (by simp at he; subst he; exact .str kro 2)
      · exact .list (k := 2) fun _ h => (by cases h))
    (fun st hst => by
      simp at hst
      rcases hst with rfl | rfl
      · simp; omega
      · rw [nums_len]; omega)
  have NE := neD_refl (sh_game hc fair hN) (by decide)
  have kk : ∀ (n : Nat), n ≤ 1000 → n ≤ 16777216 := fun n h => by omega
  have csl : cs.length ≤ 16777216 := by omega
  have psl : ps.length ≤ 16777216 := by omega
  have a22 : F__law_at [L, .int 22] = _ := hz 22 (by decide)
  have m22 := modD_p (i := z 22) (j := 2) (by omega)
  generalize hzs : (cs.map fun _ => (0 : Int)) = zs at *
  generalize hC : PyData.list (cs.map cD) = C at *
  generalize hP : PyData.list ((pw ps).map pD) = Q at *
  generalize hZ : PyData.list (zs.map .int) = Z at *
  generalize hNm : PyData.list ((numsOf cs z).map .int) = M at *
  generalize hDe : PyData.list ((deedsOf cs z).map deedD) = De at *
  generalize hD1 : PyData.tuple [.list [endD cs zs v1], .list ([(toM cs ps zs "aa", zs)].map stD), .list [.list []]] = D1 at *
  generalize hD2 : PyData.tuple [.list [.tuple [.str pk, .int (1 + z 22 % 2), .list [.int 1]], endD cs (numsOf cs z) v2], .list ([(pk, zs), (toM cs (game2 cs z (1 + z 22 % 2) ps) (numsOf cs z) "aa", numsOf cs z)].map stD), .list [.list [.str "roll"], .list []]] = D2 at *
  generalize hG1 : gD cs (pw ps) = G1 at *
  generalize hG2 : gD cs (pw (game2 cs z (1 + z 22 % 2) ps)) = G2 at *
  have s1 : q1 (env0 17 [L]) = .nx [.sh L, .sh C, .un, .un, .un, .un, .un, .un, .un, .un, .un, .un, .un, .un, .un, .un, .un] := ySet_ok (xCl_1 rfl A1)
  have s2 : q2 [.sh L, .sh C, .un, .un, .un, .un, .un, .un, .un, .un, .un, .un, .un, .un, .un, .un, .un] = .nx [.sh L, .sh C, .sh Q, .un, .un, .un, .un, .un, .un, .un, .un, .un, .un, .un, .un, .un, .un] := ySet_ok (xCl_2 rfl rfl A2)
  have s3 : q3 [.sh L, .sh C, .sh Q, .un, .un, .un, .un, .un, .un, .un, .un, .un, .un, .un, .un, .un, .un] = .nx [.sh L, .sh C, .sh Q, .sh Z, .un, .un, .un, .un, .un, .un, .un, .un, .un, .un, .un, .un, .un] := by
    subst hC hZ hzs
    exact ySet_ok (comp_zero (by omega) rfl (fun d => ⟨_, rfl⟩))
  have s4 : q4 [.sh L, .sh C, .sh Q, .sh Z, .un, .un, .un, .un, .un, .un, .un, .un, .un, .un, .un, .un, .un] = .nx [.sh L, .sh C, .sh Q, .sh Z, .un, .sh (.tuple [.str (toM cs ps zs "aa"), whD v1]), .un, .un, .un, .un, .un, .un, .un, .un, .un, .un, .un] := ySet_ok (xCl_3 rfl rfl rfl h1c)
  have s5 : q5 [.sh L, .sh C, .sh Q, .sh Z, .un, .sh (.tuple [.str (toM cs ps zs "aa"), whD v1]), .un, .un, .un, .un, .un, .un, .un, .un, .un, .un, .un] = .nx [.sh L, .sh C, .sh Q, .sh Z, .un, .sh (.tuple [.str (toM cs ps zs "aa"), whD v1]), .sh D1, .un, .un, .un, .un, .un, .un, .un, .un, .un, .un] := by
    subst hD1 hZ
    simp [q5, E1, sizeLine_eq, stD]
  have s6 : q6 [.sh L, .sh C, .sh Q, .sh Z, .un, .sh (.tuple [.str (toM cs ps zs "aa"), whD v1]), .sh D1, .un, .un, .un, .un, .un, .un, .un, .un, .un, .un] = .nx [.sh L, .sh C, .sh Q, .sh Z, .un, .sh (.tuple [.str (toM cs ps zs "aa"), whD v1]), .sh D1, .sh G1, .un, .un, .un, .un, .un, .un, .un, .un, .un] := by
    subst hC hP hG1
    simp [q6, sizeLine_eq, gD]
  have s7 : q7 [.sh L, .sh C, .sh Q, .sh Z, .un, .sh (.tuple [.str (toM cs ps zs "aa"), whD v1]), .sh D1, .sh G1, .un, .un, .un, .un, .un, .un, .un, .un, .un] = .nx [.sh L, .sh C, .sh Q, .sh Z, .un, .sh (.tuple [.str (toM cs ps zs "aa"), whD v1]), .sh D1, .sh G1, .un, .un, .un, .un, .un, .un, .un, .un, .un] := by
    have hg : PyData.tuple [C, Q] = G1 := by subst hC hP hG1; rfl
    have u1 := xCl_2 (f := xCl 1 F_spread (xCons (xVar 7) xNil)) (g := xVar 6) (ρ := [.sh L, .sh C, .sh Q, .sh Z, .un, .sh (.tuple [.str (toM cs ps zs "aa"), whD v1]), .sh D1, .sh G1, .un, .un, .un, .un, .un, .un, .un, .un, .un]) (xCl_1 rfl S1) rfl T1
    have u2 : xB neD (xVar 7) (xTup (xCons (xVar 1) (xCons (xVar 2) xNil))) [.sh L, .sh C, .sh Q, .sh Z, .un, .sh (.tuple [.str (toM cs ps zs "aa"), whD v1]), .sh D1, .sh G1, .un, .un, .un, .un, .un, .un, .un, .un, .un] = .ok (.bool false) := by
      refine (xB_ok (a := G1) (b := G1) rfl ?_).trans NE
      rw [← hg]
      simp [sizeLine_eq]
    refine (yIf_no ?_).trans rfl
    unfold xOrT xNotT
    rw [xT_ok u1]
    simp only [R.bind]
    rw [xT_ok u2]
    rfl
  have s8 : q8 [.sh L, .sh C, .sh Q, .sh Z, .un, .sh (.tuple [.str (toM cs ps zs "aa"), whD v1]), .sh D1, .sh G1, .un, .un, .un, .un, .un, .un, .un, .un, .un] = .nx [.sh L, .sh C, .sh Q, .sh Z, .un, .sh (.tuple [.str (toM cs ps zs "aa"), whD v1]), .sh D1, .sh G1, .own [], .un, .un, .un, .un, .un, .un, .un, .un] := by simp [q8]
  have s9 : q9 [.sh L, .sh C, .sh Q, .sh Z, .un, .sh (.tuple [.str (toM cs ps zs "aa"), whD v1]), .sh D1, .sh G1, .own [], .un, .un, .un, .un, .un, .un, .un, .un] = .nx [.sh L, .sh C, .sh Q, .sh Z, .un, .sh (.tuple [.str (toM cs ps zs "aa"), whD v1]), .sh D1, .sh G1, .own [], .own [], .un, .un, .un, .un, .un, .un, .un] := by simp [q9]
  obtain ⟨x10, x11, b10, b11, s10⟩ := draw_loop hz (cs := cs) hl3.2 (a2 := .sh Q) (a3 := .sh Z) (a4 := .un) (a5 := .sh (.tuple [.str (toM cs ps zs "aa"), whD v1])) (a6 := .sh D1) (a7 := .sh G1) (a12 := .un) (a13 := .un) (a14 := .un) (a15 := .un) (a16 := .un)
  rw [hC] at s10
  have s11 : q11 [.sh L, .sh C, .sh Q, .sh Z, .un, .sh (.tuple [.str (toM cs ps zs "aa"), whD v1]), .sh D1, .sh G1, .own ((deedsOf cs z).map deedD), .own ((numsOf cs z).map .int), x10, x11, .un, .un, .un, .un, .un] = .nx [.sh L, .sh C, .sh Q, .sh Z, .un, .sh (.tuple [.str (toM cs ps zs "aa"), whD v1]), .sh D1, .sh G1, .own ((deedsOf cs z).map deedD), .own ((numsOf cs z).map .int), x10, x11, .sh (.int (1 + z 22 % 2)), .un, .un, .un, .un] := by
    simp [q11, a22, m22]
  have s12 : q12 [.sh L, .sh C, .sh Q, .sh Z, .un, .sh (.tuple [.str (toM cs ps zs "aa"), whD v1]), .sh D1, .sh G1, .own ((deedsOf cs z).map deedD), .own ((numsOf cs z).map .int), x10, x11, .sh (.int (1 + z 22 % 2)), .un, .un, .un, .un] = .nx [.sh L, .sh C, .sh Q, .sh Z, .un, .sh (.tuple [.str (toM cs ps zs "aa"), whD v1]), .sh D1, .sh G1, .own ((deedsOf cs z).map deedD), .sh M, x10, x11, .sh (.int (1 + z 22 % 2)), .sh (.tuple [.str (toM cs (game2 cs z (1 + z 22 % 2) ps) (numsOf cs z) "aa"), whD v2]), .un, .un, .un] := by
    unfold q12 yFrz
    show (ySet 13 _) [.sh L, .sh C, .sh Q, .sh Z, .un, .sh (.tuple [.str (toM cs ps zs "aa"), whD v1]), .sh D1, .sh G1, .own ((deedsOf cs z).map deedD), .sh (.list ((numsOf cs z).map .int)), x10, x11, .sh (.int (1 + z 22 % 2)), .un, .un, .un, .un] = _
    rw [hNm]
    exact ySet_ok (xCl_3 rfl rfl rfl h2c)
  have s13 : q13 [.sh L, .sh C, .sh Q, .sh Z, .un, .sh (.tuple [.str (toM cs ps zs "aa"), whD v1]), .sh D1, .sh G1, .own ((deedsOf cs z).map deedD), .sh M, x10, x11, .sh (.int (1 + z 22 % 2)), .sh (.tuple [.str (toM cs (game2 cs z (1 + z 22 % 2) ps) (numsOf cs z) "aa"), whD v2]), .un, .un, .un] = .nx [.sh L, .sh C, .sh Q, .sh Z, .un, .sh (.tuple [.str (toM cs ps zs "aa"), whD v1]), .sh D1, .sh G1, .sh De, .sh M, x10, x11, .sh (.int (1 + z 22 % 2)), .sh (.tuple [.str (toM cs (game2 cs z (1 + z 22 % 2) ps) (numsOf cs z) "aa"), whD v2]), .sh G2, .un, .un] := by
    unfold q13 yFrz
    show (ySet 14 _) [.sh L, .sh C, .sh Q, .sh Z, .un, .sh (.tuple [.str (toM cs ps zs "aa"), whD v1]), .sh D1, .sh G1, .sh (.list ((deedsOf cs z).map deedD)), .sh M, x10, x11, .sh (.int (1 + z 22 % 2)), .sh (.tuple [.str (toM cs (game2 cs z (1 + z 22 % 2) ps) (numsOf cs z) "aa"), whD v2]), .un, .un, .un] = _
    have hq : PyData.tuple [C, .list ([.tuple [.str pk, .tuple [.str pk, .int (1 + z 22 % 2), .list [.tuple [.str "roll", .none, De, .str "aa"]]]]] ++ (pw ps).map pD)] = G2 := by
      subst hG2 hC hDe
      rfl
    rw [hDe, ← hq]
    have hl5 : 1 + ps.length ≤ 16777216 := by omega
    subst hP
    have hl6 : ps.length + 1 ≤ 16777216 := by omega
    exact ySet_ok (by simp [sizeLine_eq, pw, hl5, hl6])
  have s14 : q14 [.sh L, .sh C, .sh Q, .sh Z, .un, .sh (.tuple [.str (toM cs ps zs "aa"), whD v1]), .sh D1, .sh G1, .sh De, .sh M, x10, x11, .sh (.int (1 + z 22 % 2)), .sh (.tuple [.str (toM cs (game2 cs z (1 + z 22 % 2) ps) (numsOf cs z) "aa"), whD v2]), .sh G2, .un, .un] = .nx [.sh L, .sh C, .sh Q, .sh Z, .un, .sh (.tuple [.str (toM cs ps zs "aa"), whD v1]), .sh D1, .sh G1, .sh De, .sh M, x10, x11, .sh (.int (1 + z 22 % 2)), .sh (.tuple [.str (toM cs (game2 cs z (1 + z 22 % 2) ps) (numsOf cs z) "aa"), whD v2]), .sh G2, .sh (.list [.tuple [.str pk, Z], .tuple [.str (toM cs (game2 cs z (1 + z 22 % 2) ps) (numsOf cs z) "aa"), M]]), .un] := by
    simp [q14, sizeLine_eq]
  have s15 : q15 [.sh L, .sh C, .sh Q, .sh Z, .un, .sh (.tuple [.str (toM cs ps zs "aa"), whD v1]), .sh D1, .sh G1, .sh De, .sh M, x10, x11, .sh (.int (1 + z 22 % 2)), .sh (.tuple [.str (toM cs (game2 cs z (1 + z 22 % 2) ps) (numsOf cs z) "aa"), whD v2]), .sh G2, .sh (.list [.tuple [.str pk, Z], .tuple [.str (toM cs (game2 cs z (1 + z 22 % 2) ps) (numsOf cs z) "aa"), M]]), .un] = .nx [.sh L, .sh C, .sh Q, .sh Z, .un, .sh (.tuple [.str (toM cs ps zs "aa"), whD v1]), .sh D2, .sh G1, .sh De, .sh M, x10, x11, .sh (.int (1 + z 22 % 2)), .sh (.tuple [.str (toM cs (game2 cs z (1 + z 22 % 2) ps) (numsOf cs z) "aa"), whD v2]), .sh G2, .sh (.list [.tuple [.str pk, Z], .tuple [.str (toM cs (game2 cs z (1 + z 22 % 2) ps) (numsOf cs z) "aa"), M]]), .un] := by
    have hq : PyData.tuple [.list [.tuple [.str pk, .int (1 + z 22 % 2), .list [.int 1]], endD cs (numsOf cs z) v2], .list [.tuple [.str pk, Z], .tuple [.str (toM cs (game2 cs z (1 + z 22 % 2) ps) (numsOf cs z) "aa"), M]], .list [.list [.str "roll"], .list []]] = D2 := by
      subst hD2 hZ hNm
      rfl
    rw [← hq]
    simp [q15, E2, sizeLine_eq]
  have s16 : q16 [.sh L, .sh C, .sh Q, .sh Z, .un, .sh (.tuple [.str (toM cs ps zs "aa"), whD v1]), .sh D2, .sh G1, .sh De, .sh M, x10, x11, .sh (.int (1 + z 22 % 2)), .sh (.tuple [.str (toM cs (game2 cs z (1 + z 22 % 2) ps) (numsOf cs z) "aa"), whD v2]), .sh G2, .sh (.list [.tuple [.str pk, Z], .tuple [.str (toM cs (game2 cs z (1 + z 22 % 2) ps) (numsOf cs z) "aa"), M]]), .un] = .rt (.bool true) := by
    generalize hρ : ([.sh L, .sh C, .sh Q, .sh Z, .un, .sh (.tuple [.str (toM cs ps zs "aa"), whD v1]), .sh D2, .sh G1, .sh De, .sh M, x10, x11, .sh (.int (1 + z 22 % 2)), .sh (.tuple [.str (toM cs (game2 cs z (1 + z 22 % 2) ps) (numsOf cs z) "aa"), whD v2]), .sh G2, .sh (.list [.tuple [.str pk, Z], .tuple [.str (toM cs (game2 cs z (1 + z 22 % 2) ps) (numsOf cs z) "aa"), M]]), .un] : En) = ρ
    have hb : ρ.all bareS = true ∧ ρ.length = 17 := by
      subst hρ
      refine ⟨?_, rfl⟩
      simp only [List.all_cons, List.all_nil, b10, b11]
      rfl
    have h1 : (xCl 1 F_spread (xCons (xVar 14) xNil)) ρ = .ok D2 := xCl_1 (by subst hρ; rfl) S2
    have h2 : (xNotT (xT (xCl 2 F__law_told (xCons (xVar 16) (xCons (xVar 6) xNil))))) (ρ.set 16 (.nw D2)) = .ok false := by
      have := xCl_2 (f := xVar 16) (g := xVar 6) (ρ := ρ.set 16 (.nw D2)) (by subst hρ; rfl) (by subst hρ; rfl) T2
      unfold xNotT
      rw [xT_ok this]
      rfl
    have h3 : (xCl 2 F__law_told (xCons (xCl 1 F_spread (xCons (xVar 14) xNil)) (xCons (xVar 6) xNil))) (ρ.set 16 .un) = .ok (.bool true) := xCl_2 (xCl_1 (by subst hρ; rfl) S2) (by subst hρ; rfl) T2
    unfold q16 yTail
    rw [if_pos hb, h1]
    dsimp only
    rw [h2]
    dsimp only
    rw [if_neg (by decide), h3]
    have hnl : ((numsOf cs z).map PyData.int).length < sizeLine := by
      rw [List.length_map, nums_len, sizeLine_eq]
      omega
    rw [← hD2]
    exact if_pos hnl
  exact congrArg fin ((yCons_nx s1).trans ((yCons_nx s2).trans ((yCons_nx s3).trans ((yCons_nx s4).trans ((yCons_nx s5).trans ((yCons_nx s6).trans ((yCons_nx s7).trans ((yCons_nx s8).trans ((yCons_nx s9).trans ((yCons_nx s10).trans ((yCons_nx s11).trans ((yCons_nx s12).trans ((yCons_nx s13).trans ((yCons_nx s14).trans ((yCons_nx s15).trans s16)))))))))))))))
end G
open PySem PySem.W PyProof.Rows
set_option maxRecDepth 100000 in
set_option maxHeartbeats 0 in
theorem PySem.Challenge.cw_pressluck_k53_asks_gone_through_holds : PySem.Challenge.rw_pressluck_k53_asks_gone_through.Holds := by
  w_on; o_law; k_head; (case hw => w_witness2)
  k_fill
  refine L2.walk_of (l := PySem.Challenge.rw_pressluck_k53_asks_gone_through) (n := 63) (k := 16) (x := "_law_script") (CX := fun w => L2.CX PySem.Challenge.rw_pressluck_k53_asks_gone_through.prog w) (sp := fun w => DL.spLaw _) rfl (by decide) rfl ⟨rfl, by decide, by decide⟩ (fun w h Y => PySem.W.kIn_of Y) ?F (fun _ H a ks hl _ hS => DL.law_says hl hS) (fun _ _ _ _ _ h => DL.cx_none h)
  case F =>
    intro w mg fa h KX hG hmg
    refine (G.fn_law (ca := G.caOf mg) ?T).end G.law_true hmg
    refine' G.txt_mk KX hG ?a_divisor_of ?l_divisor_of ?c_divisor_of ?k_divisor_of ?a_share ?l_share ?c_share ?k_share ?a_table_of ?l_table_of ?c_table_of ?k_table_of ?a_sides_of ?l_sides_of ?c_sides_of ?k_sides_of ?a_most_faces ?l_most_faces ?c_most_faces ?k_most_faces ?a_power_of ?l_power_of ?c_power_of ?k_power_of ?a_count_of ?l_count_of ?c_count_of ?k_count_of ?a_ask_pool ?l_ask_pool ?c_ask_pool ?k_ask_pool ?a_goes_on ?l_goes_on ?c_goes_on ?k_goes_on ?a_longer_throws ?l_longer_throws ?c_longer_throws ?k_longer_throws ?a_worth_of ?l_worth_of ?c_worth_of ?k_worth_of ?a_plain_rows ?l_plain_rows ?c_plain_rows ?k_plain_rows ?a_pool_table ?l_pool_table ?c_pool_table ?k_pool_table ?a_what_at ?l_what_at ?c_what_at ?k_what_at ?a_number_of ?l_number_of ?c_number_of ?k_number_of ?a_is_open ?l_is_open ?c_is_open ?k_is_open ?a_arrived ?l_arrived ?c_arrived ?k_arrived ?a_begun ?l_begun ?c_begun ?k_begun ?a_done_deeds ?l_done_deeds ?c_done_deeds ?k_done_deeds ?a_found_at ?l_found_at ?c_found_at ?k_found_at ?a_throw_ways ?l_throw_ways ?c_throw_ways ?k_throw_ways ?a_pick_ways ?l_pick_ways ?c_pick_ways ?k_pick_ways ?a_spread ?l_spread ?c_spread ?k_spread ?a__law_at ?l__law_at ?c__law_at ?k__law_at ?a__law_counts ?l__law_counts ?c__law_counts ?k__law_counts ?a__law_asks ?l__law_asks ?c__law_asks ?k__law_asks ?a__law_led ?l__law_led ?c__law_led ?k__law_led ?a__law_end ?l__law_end ?c__law_end ?k__law_end ?a__law_told ?l__law_told ?c__law_told ?k__law_told ?a_law ?l_law ?c_law ?k_law ?ea_LuckError ?ee_LuckError ?ek_LuckError ?eb_LuckError ?et_LuckError ?ea_NoShare ?ee_NoShare ?ek_NoShare ?eb_NoShare ?et_NoShare ?ea_NoTable ?ee_NoTable ?ek_NoTable ?eb_NoTable ?et_NoTable ?ea_TooMany ?ee_TooMany ?ek_TooMany ?eb_TooMany ?et_TooMany ?ea_NoWay ?ee_NoWay ?ek_NoWay ?eb_NoWay ?et_NoWay ?b_ValueError ?b_abs ?b_bool ?b_isinstance ?b_len ?b_list ?b_min ?b_range ?b_sorted ?b_sum ?b_tuple ?v_MOST_THROWS ?v_MOST_BOTTOM ?v_MOST_STATES
    (case a_divisor_of => k_is)
    (case l_divisor_of => k_is)
    (case c_divisor_of => k_is)
    (case k_divisor_of => k_is)
    (case a_share => k_is)
    (case l_share => k_is)
    (case c_share => k_is)
    (case k_share => k_is)
    (case a_table_of => k_is)
    (case l_table_of => k_is)
    (case c_table_of => k_is)
    (case k_table_of => k_is)
    (case a_sides_of => k_is)
    (case l_sides_of => k_is)
    (case c_sides_of => k_is)
    (case k_sides_of => k_is)
    (case a_most_faces => k_is)
    (case l_most_faces => k_is)
    (case c_most_faces => k_is)
    (case k_most_faces => k_is)
    (case a_power_of => k_is)
    (case l_power_of => k_is)
    (case c_power_of => k_is)
    (case k_power_of => k_is)
    (case a_count_of => k_is)
    (case l_count_of => k_is)
    (case c_count_of => k_is)
    (case k_count_of => k_is)
    (case a_ask_pool => k_is)
    (case l_ask_pool => k_is)
    (case c_ask_pool => k_is)
    (case k_ask_pool => k_is)
    (case a_goes_on => k_is)
    (case l_goes_on => k_is)
    (case c_goes_on => k_is)
    (case k_goes_on => k_is)
    (case a_longer_throws => k_is)
    (case l_longer_throws => k_is)
    (case c_longer_throws => k_is)
    (case k_longer_throws => k_is)
    (case a_worth_of => k_is)
    (case l_worth_of => k_is)
    (case c_worth_of => k_is)
    (case k_worth_of => k_is)
    (case a_plain_rows => k_is)
    (case l_plain_rows => k_is)
    (case c_plain_rows => k_is)
    (case k_plain_rows => k_is)
    (case a_pool_table => k_is)
    (case l_pool_table => k_is)
    (case c_pool_table => k_is)
    (case k_pool_table => k_is)
    (case a_what_at => k_is)
    (case l_what_at => k_is)
    (case c_what_at => k_is)
    (case k_what_at => k_is)
    (case a_number_of => k_is)
    (case l_number_of => k_is)
    (case c_number_of => k_is)
    (case k_number_of => k_is)
    (case a_is_open => k_is)
    (case l_is_open => k_is)
    (case c_is_open => k_is)
    (case k_is_open => k_is)
    (case a_arrived => k_is)
    (case l_arrived => k_is)
    (case c_arrived => k_is)
    (case k_arrived => k_is)
    (case a_begun => k_is)
    (case l_begun => k_is)
    (case c_begun => k_is)
    (case k_begun => k_is)
    (case a_done_deeds => k_is)
    (case l_done_deeds => k_is)
    (case c_done_deeds => k_is)
    (case k_done_deeds => k_is)
    (case a_found_at => k_is)
    (case l_found_at => k_is)
    (case c_found_at => k_is)
    (case k_found_at => k_is)
    (case a_throw_ways => k_is)
    (case l_throw_ways => k_is)
    (case c_throw_ways => k_is)
    (case k_throw_ways => k_is)
    (case a_pick_ways => k_is)
    (case l_pick_ways => k_is)
    (case c_pick_ways => k_is)
    (case k_pick_ways => k_is)
    (case a_spread => k_is)
    (case l_spread => k_is)
    (case c_spread => k_is)
    (case k_spread => k_is)
    (case a__law_at => k_is)
    (case l__law_at => k_is)
    (case c__law_at => k_is)
    (case k__law_at => k_is)
    (case a__law_counts => k_is)
    (case l__law_counts => k_is)
    (case c__law_counts => k_is)
    (case k__law_counts => k_is)
    (case a__law_asks => k_is)
    (case l__law_asks => k_is)
    (case c__law_asks => k_is)
    (case k__law_asks => k_is)
    (case a__law_led => k_is)
    (case l__law_led => k_is)
    (case c__law_led => k_is)
    (case k__law_led => k_is)
    (case a__law_end => k_is)
    (case l__law_end => k_is)
    (case c__law_end => k_is)
    (case k__law_end => k_is)
    (case a__law_told => k_is)
    (case l__law_told => k_is)
    (case c__law_told => k_is)
    (case k__law_told => k_is)
    (case a_law => k_is)
    (case l_law => k_is)
    (case c_law => k_is)
    (case k_law => k_is)
    (case ea_LuckError => k_is)
    (case ee_LuckError => k_exc)
    (case ek_LuckError => k_is)
    (case eb_LuckError => k_is)
    (case et_LuckError => k_is)
    (case ea_NoShare => k_is)
    (case ee_NoShare => k_exc)
    (case ek_NoShare => k_is)
    (case eb_NoShare => k_is)
    (case et_NoShare => k_is)
    (case ea_NoTable => k_is)
    (case ee_NoTable => k_exc)
    (case ek_NoTable => k_is)
    (case eb_NoTable => k_is)
    (case et_NoTable => k_is)
    (case ea_TooMany => k_is)
    (case ee_TooMany => k_exc)
    (case ek_TooMany => k_is)
    (case eb_TooMany => k_is)
    (case et_TooMany => k_is)
    (case ea_NoWay => k_is)
    (case ee_NoWay => k_exc)
    (case ek_NoWay => k_is)
    (case eb_NoWay => k_is)
    (case et_NoWay => k_is)
    (case b_ValueError => k_is)
    (case b_abs => k_is)
    (case b_bool => k_is)
    (case b_isinstance => k_is)
    (case b_len => k_is)
    (case b_list => k_is)
    (case b_min => k_is)
    (case b_range => k_is)
    (case b_sorted => k_is)
    (case b_sum => k_is)
    (case b_tuple => k_is)
    (case v_MOST_THROWS => k_is)
    (case v_MOST_BOTTOM => k_is)
    (case v_MOST_STATES => k_is)
