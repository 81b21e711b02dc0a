import PyProof.Rows.All
import Wide.All
import OpenK.AllK
import Wide.FinOn
import HandS.ForMost
import HandS.ForExc
import HandS.Wide
import HandS.Style
import HandS.Flow
import HandS.IsInst
import HandS.TryMany
import HandS.CallSlots
import HandS.ExcIs
import HandS.ListItems
import HandS.Comp
import HandS.Rev
import HandS.TupAny
import HandS.Defaults
import HandS.AnyAll
import PyProof.SumAny
import HandS.SetBool
import HandS.TupSets
import HandS.Deep
import HandS.SetKeys
import HandS.More
import HandS.Iter
import HandS.Zip
import KE.GoesEnum
import PyProof.DictMoreH
import KE.KStateDown
import HandS.Head0
import HandS.Head1
import HandS.Head2
import HandS.HeadEnd
import HandS.HeadHook1
import HandS.HeadHook2
import HandS.HeadHook3
import HandS.HeadHook4
import HandS.HeadWalk
import HandS.EndTab
import HandS.MakeKwOnly
import HandS.Property
import HandS.OwnEq
import KE.KDictList
import HandS.HeadNt
import HandS.DictComp
import KE.KEqDict
import KE.DataCmp
import PySem.Challenge.RW_turnpike_k39_new_ledgers_are_refused
set_option Elab.async false
set_option linter.all false
set_option maxRecDepth 100000
set_option maxHeartbeats 40000000
/-! The layer of data: expressions and statements over plain data, the heap out of sight. -/
namespace Tp
open PySem L2

abbrev D := PyData

/-! ### values that stand for data -/
def kD : Key → D
  | .inl i => .int i
  | .inr x => .str x
abbrev kdm (x : Key × D) : D × D := (kD x.1, x.2)
theorem kD_inj : ∀ {a b : Key}, kD a = kD b → a = b
  | .inl _, .inl _, h => congrArg Sum.inl (PyData.int.inj h)
  | .inr _, .inr _, h => congrArg Sum.inr (PyData.str.inj h)
  | .inl _, .inr _, h => nomatch h
  | .inr _, .inl _, h => nomatch h
theorem kdm_inj : ∀ {a b : List (Key × D)}, a.map kdm = b.map kdm → a = b
  | [], [], _ => rfl
  | [], _ :: _, h => nomatch h
  | _ :: _, [], h => nomatch h
  | (k, d) :: a, (k', d') :: b, h => by
    have h' : (kD k, d) :: a.map kdm = (kD k', d') :: b.map kdm := h
    injection h' with h1 h2
    injection h1 with h3 h4
    rw [kD_inj h3, h4, kdm_inj h2]
/-- a table: keys are tuples of ints, values ints; told apart from other dicts by a first entry -/
def tabD (t : List (List Int × Int)) : D := .dict ((.none, .none) :: t.map fun x => (.tuple (x.1.map .int), .int x.2))
def tabV (t : List (List Int × Int)) : List (List Key × V) := t.map fun x => (x.1.map Sum.inl, .int x.2)
mutual
inductive Rp (K : PySem.W.Frag) (H : Hp) : V → D → Prop
  | non : Rp K H .non .none
  | bl (b : Bool) : Rp K H (.bl b) (.bool b)
  | int (i : Int) : Rp K H (.int i) (.int i)
  | str (x : Str) : Rp K H (.str x) (.str x)
  | lst {a : Addr} {xs : List V} {ds : List D} : SqL K H a xs → RpA K H xs ds → Rp K H (.ref a) (.list ds)
  | tup {a : Addr} {xs : List V} {ds : List D} : SqT K H a xs → RpA K H xs ds → Rp K H (.ref a) (.tuple ds)
  | dct {a : Addr} {us : List (Key × V)} {kvs : List (Key × D)} : H a = some (.dK us) → RpK K H us kvs → Rp K H (.ref a) (.dict (kvs.map kdm))
  | tab {a : Addr} {t : List (List Int × Int)} : H a = some (.dT (tabV t)) → Rp K H (.ref a) (.dict ((.none, .none) :: t.map fun x => (.tuple (x.1.map .int), .int x.2)))
inductive RpA (K : PySem.W.Frag) (H : Hp) : List V → List D → Prop
  | nil : RpA K H [] []
  | cons {v : V} {vs : List V} {d : D} {ds : List D} : Rp K H v d → RpA K H vs ds → RpA K H (v :: vs) (d :: ds)
inductive RpK (K : PySem.W.Frag) (H : Hp) : List (Key × V) → List (Key × D) → Prop
  | nil : RpK K H [] []
  | cons {k : Key} {v : V} {vs : List (Key × V)} {d : D} {ds : List (Key × D)} : Rp K H v d → RpK K H vs ds → RpK K H ((k, v) :: vs) ((k, d) :: ds)
end

/-- an object behind it: the same, or a code object's table that has grown -/
def Ext1 (o : HO) (r : Option HO) : Prop := r = some o ∨ ∃ ps ps', o = .tbl ps ∧ r = some (.tbl ps') ∧ (TriplesOk ps.toList → TriplesOk ps'.toList)
/-- no table -/
def NT : HO → Prop
  | .tbl _ => False
  | _ => True
theorem Ext1.nt {o : HO} {r : Option HO} (h : Ext1 o r) (n : NT o) : r = some o := h.elim id fun ⟨_, _, e, _⟩ => by subst e; exact n.elim
theorem Ext1.is {o : HO} {r : Option HO} (h : Ext1 o r) : ∃ u, r = some u := h.elim (fun e => ⟨_, e⟩) fun ⟨_, _, _, e, _⟩ => ⟨_, e⟩
theorem Ext1.no {o : HO} (h : Ext1 o none) : False := by
  obtain ⟨u, e⟩ := h.is
  cases e
theorem Ext1.trans {o : HO} {r q : Option HO} (h : Ext1 o r) (k : ∀ u, r = some u → Ext1 u q) : Ext1 o q := by
  rcases h with h | ⟨ps, ps', e, h, t⟩
  · exact k o h
  · rcases k _ h with h2 | ⟨qs, qs', e2, h2, t2⟩
    · exact .inr ⟨ps, ps', e, h2, t⟩
    · cases e2
      exact .inr ⟨ps, qs', e, h2, fun z => t2 (t z)⟩
/-- what stood stands -/
def Same (H H' : Hp) : Prop := ∀ a o, H a = some o → Ext1 o (H' a)
theorem Same.of {H H' : Hp} (h : ∀ a o, H a = some o → H' a = some o) : Same H H' := fun a o e => .inl (h a o e)
theorem Same.refl (H : Hp) : Same H H := fun _ _ e => .inl e
theorem Same.trans {H H' H'' : Hp} (a : Same H H') (b : Same H' H'') : Same H H'' := fun x o e => (a x o e).trans fun u eu => b x u eu
theorem Same.k {H H' : Hp} {a : Addr} {o : HO} (s : Same H H') (e : H a = some o) (n : NT o := by trivial) : H' a = some o := (s a o e).nt n
theorem Same.rd {H H' : Hp} {a : Addr} {o : HO} (s : Same H H') (h : Rd H a o) (n : NT o := by trivial) : Rd H' a o := by
  rcases h with h | ⟨u, h⟩
  · exact .inl (s.k h n)
  · exact .inr ⟨u, s.k h⟩
theorem Same.seq {K : PySem.W.Frag} {H H' : Hp} {a : Addr} {xs : List V} (e : Same H H') (h : SqL K H a xs) : SqL K H' a xs := h.elim (fun z => .inl (e.rd z)) .inr
theorem seqT {K : PySem.W.Frag} {H H' : Hp} {a : Addr} {xs : List V} (e : Same H H') (h : SqT K H a xs) : SqT K H' a xs := by
  exact h.elim (fun z => .inl (e.rd z)) .inr

section
variable {K : PySem.W.Frag} {H H' : Hp}
mutual
theorem Rp.mono (s : Same H H') : ∀ {v : V} {d : D}, Rp K H v d → Rp K H' v d
  | _, _, .non => .non
  | _, _, .bl b => .bl b
  | _, _, .int i => .int i
  | _, _, .str x => .str x
  | _, _, .lst h a => .lst (s.seq h) (RpA.mono s a)
  | _, _, .tup h a => .tup (seqT s h) (RpA.mono s a)
  | _, _, .dct h a => .dct (s.k h) (RpK.mono s a)
  | _, _, .tab h => .tab (s.k h)
theorem RpA.mono (s : Same H H') : ∀ {vs : List V} {ds : List D}, RpA K H vs ds → RpA K H' vs ds
  | _, _, .nil => .nil
  | _, _, .cons h a => .cons (Rp.mono s h) (RpA.mono s a)
theorem RpK.mono (s : Same H H') : ∀ {vs : List (Key × V)} {ds : List (Key × D)}, RpK K H vs ds → RpK K H' vs ds
  | _, _, .nil => .nil
  | _, _, .cons h a => .cons (Rp.mono s h) (RpK.mono s a)
end
theorem RpA.len : ∀ {vs : List V} {ds : List D}, RpA K H vs ds → vs.length = ds.length
  | _, _, .nil => rfl
  | _, _, .cons _ a => congrArg (· + 1) (RpA.len a)
theorem RpA.get : ∀ {vs : List V} {ds : List D} {i : Nat} {d : D}, RpA K H vs ds → ds[i]? = some d → ∃ v, vs[i]? = some v ∧ Rp K H v d
  | _, _, _, _, .nil, e => by simp at e
  | _, _, 0, _, .cons r _, e => by simp at e; subst e; exact ⟨_, rfl, r⟩
  | _, _, i + 1, _, .cons _ t, e => by
    obtain ⟨v, h1, h2⟩ := RpA.get (i := i) t (by simpa using e)
    exact ⟨v, by simpa using h1, h2⟩
theorem RpA.getV : ∀ {vs : List V} {ds : List D} {i : Nat} {v : V}, RpA K H vs ds → vs[i]? = some v → ∃ d, ds[i]? = some d ∧ Rp K H v d
  | _, _, _, _, .nil, e => by simp at e
  | _, _, 0, _, .cons r _, e => by simp at e; subst e; exact ⟨_, rfl, r⟩
  | _, _, i + 1, _, .cons _ t, e => by
    obtain ⟨v, h1, h2⟩ := RpA.getV (i := i) t (by simpa using e)
    exact ⟨v, by simpa using h1, h2⟩
theorem RpA.app : ∀ {vs : List V} {ds : List D} {ws : List V} {es : List D}, RpA K H vs ds → RpA K H ws es → RpA K H (vs ++ ws) (ds ++ es)
  | _, _, _, _, .nil, b => b
  | _, _, _, _, .cons r a, b => .cons r (RpA.app a b)
theorem RpK.keys : ∀ {us : List (Key × V)} {kvs : List (Key × D)}, RpK K H us kvs → us.map (·.1) = kvs.map (·.1)
  | _, _, .nil => rfl
  | _, _, .cons _ a => congrArg (_ :: ·) (RpK.keys a)
theorem RpK.len {us : List (Key × V)} {kvs : List (Key × D)} (h : RpK K H us kvs) : us.length = kvs.length := by
  have := congrArg List.length h.keys
  simpa using this
theorem RpA.one {v : V} {d : D} (h : Rp K H v d) : RpA K H [v] [d] := .cons h .nil
theorem RpA.rev : ∀ {vs : List V} {ds : List D}, RpA K H vs ds → RpA K H vs.reverse ds.reverse
  | _, _, .nil => .nil
  | _, _, .cons r a => by
    rw [List.reverse_cons, List.reverse_cons]
    exact RpA.app (RpA.rev a) (RpA.one r)
theorem RpA.drop : ∀ {vs : List V} {ds : List D} (n : Nat), RpA K H vs ds → RpA K H (vs.drop n) (ds.drop n)
  | _, _, 0, r => r
  | _, _, _ + 1, .nil => .nil
  | _, _, n + 1, .cons _ t => RpA.drop n t
theorem RpA.take : ∀ {vs : List V} {ds : List D} (n : Nat), RpA K H vs ds → RpA K H (vs.take n) (ds.take n)
  | _, _, 0, _ => .nil
  | _, _, _ + 1, .nil => .nil
  | _, _, n + 1, .cons r t => .cons r (RpA.take n t)
theorem RpA.set : ∀ {vs : List V} {ds : List D} {v : V} {d : D} (n : Nat), RpA K H vs ds → Rp K H v d → RpA K H (vs.set n v) (ds.set n d)
  | _, _, _, _, _, .nil, _ => .nil
  | _, _, _, _, 0, .cons _ t, r => .cons r t
  | _, _, _, _, n + 1, .cons q t, r => .cons q (RpA.set n t r)
theorem RpA.erase : ∀ {vs : List V} {ds : List D} (n : Nat), RpA K H vs ds → RpA K H (vs.eraseIdx n) (ds.eraseIdx n)
  | _, _, _, .nil => .nil
  | _, _, 0, .cons _ t => t
  | _, _, n + 1, .cons q t => .cons q (RpA.erase n t)
theorem RpA.ints : ∀ {ns : List Int}, RpA K H (ns.map V.int) (ns.map PyData.int)
  | [] => .nil
  | n :: _ => .cons (.int n) RpA.ints
/-- what a dict holds at a key; with the key stored -/
def lkK : List (Key × D) → Key → Option D
  | [], _ => none
  | (k, d) :: r, q => if k = q then some d else lkK r q
def ptK : List (Key × D) → Key → D → List (Key × D)
  | [], q, e => [(q, e)]
  | (k, d) :: r, q, e => if k = q then (k, e) :: r else (k, d) :: ptK r q e
theorem RpA.map {α : Type} {f : α → V} {g : α → D} {l : List α} (h : ∀ x ∈ l, Rp K H (f x) (g x)) : RpA K H (l.map f) (l.map g) := by
  induction l with
  | nil => exact .nil
  | cons a l ih => exact .cons (h a (List.mem_cons_self)) (ih fun x hx => h x (List.mem_cons_of_mem _ hx))
end

/-! ### what is hidden -/
def hide (H : Hp) (ps : List Addr) : Hp := fun a => if a ∈ ps then none else H a
theorem hide_in {H : Hp} {ps : List Addr} {a : Addr} (h : a ∈ ps) : hide H ps a = none := if_pos h
theorem hide_out {H : Hp} {ps : List Addr} {a : Addr} (h : a ∉ ps) : hide H ps a = H a := if_neg h
theorem hide_same {H : Hp} {ps : List Addr} : Same (hide H ps) H := fun a o e => by
  by_cases h : a ∈ ps
  · rw [hide_in h] at e; cases e
  · rw [hide_out h] at e; exact .inl e
theorem hide_mono {H H' : Hp} {ps : List Addr} (s : Same H H') : Same (hide H ps) (hide H' ps) := fun a o e => by
  by_cases h : a ∈ ps
  · rw [hide_in h] at e; cases e
  · rw [hide_out h] at e ⊢; exact s a o e
theorem hide_sub {H : Hp} {ps qs : List Addr} (h : ∀ p ∈ qs, p ∈ ps) : Same (hide H ps) (hide H qs) := fun a o e => by
  by_cases h1 : a ∈ ps
  · rw [hide_in h1] at e; cases e
  · rw [hide_out h1] at e
    rw [hide_out fun z => h1 (h a z)]; exact .inl e
/-- a hidden object may change -/
theorem hide_upd {H : Hp} {ps : List Addr} {p : Addr} {o : HO} (h : p ∈ ps) : Same (hide H ps) (hide (upd H p o) ps) := fun a u e => by
  by_cases h1 : a ∈ ps
  · rw [hide_in h1] at e; cases e
  · rw [hide_out h1] at e ⊢
    have np : a ≠ p := by
      rintro rfl
      exact h1 h
    rw [upd_ne np]; exact .inl e
theorem same_new {H : Hp} {p : Addr} {o : HO} (h : H p = none) : Same H (upd H p o) := fun a u e => by
  rw [upd_ne (ne_of_none e h)]; exact .inl e
/-- a new object is not hidden, if what is hidden is there -/
theorem hide_new {H : Hp} {ps : List Addr} {p : Addr} {o : HO} (hp : H p = none) (hd : ∀ q ∈ ps, H q ≠ none) : hide (upd H p o) ps p = some o := by
  rw [hide_out fun z => hd p z hp, upd_same]

/-! ### the slots -/
/-- a code object's table stands at P -/
def TabG (H : Hp) (P : Addr) : Prop := ∃ ps : Array Value, H P = some (.tbl ps) ∧ TriplesOk ps.toList
theorem TabG.ext {H H' : Hp} {P : Addr} (h : TabG H P) (k : ∀ o, H P = some o → Ext1 o (H' P)) : TabG H' P := by
  obtain ⟨ps, e, t⟩ := h
  rcases k _ e with z | ⟨qs, qs', z1, z2, z3⟩
  · exact ⟨ps, z, t⟩
  · cases z1
    exact ⟨qs', z2, z3 t⟩
theorem TabG.mono {H H' : Hp} {P : Addr} (s : Same H H') (h : TabG H P) : TabG H' P := h.ext fun o e => s P o e
theorem TabG.ne {H : Hp} {P p : Addr} {u : HO} (h : TabG H P) (e : H p = some u) (n : NT u) : P ≠ p := by
  rintro rfl
  obtain ⟨ps, e2, _⟩ := h
  rw [e] at e2
  cases e2
  exact n
/-- an item of a ghost: data, or another ghost -/
inductive It where
  | da (d : D)
  | rf (a : Addr)
/-- a ghost: what an owned object holds -/
inductive Nd where
  | ls (is : List It)
  | dc (kvs : List (Key × It))
  /-- a dict that is walked -/
  | fz (kvs : List (Key × It))
  /-- a tuple that holds ghosts -/
  | tp (is : List It)
  | ob (C dx : Addr) (fs : List (Str × It))
/-- the ground: the heap at the entry, what the caller hides -/
structure Bx where
  H0 : Hp
  ps : List Addr
  /-- the tables of code objects that stand -/
  ts : List Addr
  /-- ghosts that are only read -/
  gr : List (Addr × Nd)
inductive Sl where
  | no
  | im (d : D)
  | ol (p : Addr) (ds : List D)
  | od (p : Addr) (kvs : List (Key × D))
  | rf (a : Addr)
  | gs (gl : List (Addr × Nd))
  /-- an owned set of ints -/
  | os (p : Addr) (S : List Int)
  /-- an owned table -/
  | ot (p : Addr) (t : List (List Int × Int))
def gown : List (Addr × Nd) → List Addr
  | [] => []
  | (a, .ob _ dx _) :: g => a :: dx :: gown g
  | (a, .ls _) :: g => a :: gown g
  | (a, .dc _) :: g => a :: gown g
  | (a, .fz _) :: g => a :: gown g
  | (a, .tp _) :: g => a :: gown g
def ownOf : Sl → List Addr
  | .ol p _ => [p]
  | .od p _ => [p]
  | .os p _ => [p]
  | .ot p _ => [p]
  | .gs gl => gown gl
  | _ => []
def own : List Sl → List Addr
  | [] => []
  | s :: r => ownOf s ++ own r
abbrev hid (B : Bx) (r : List Sl) (H : Hp) : Hp := hide H (own r ++ B.ps)
def ItOk (K : PySem.W.Frag) (Hh : Hp) : V → It → Prop
  | v, .da d => Rp K Hh v d
  | v, .rf a => v = .ref a
inductive ItA (K : PySem.W.Frag) (Hh : Hp) : List V → List It → Prop
  | nil : ItA K Hh [] []
  | cons {v : V} {vs : List V} {i : It} {is : List It} : ItOk K Hh v i → ItA K Hh vs is → ItA K Hh (v :: vs) (i :: is)
inductive ItK (K : PySem.W.Frag) (Hh : Hp) {κ : Type} : List (κ × V) → List (κ × It) → Prop
  | nil : ItK K Hh [] []
  | cons {k : κ} {v : V} {vs : List (κ × V)} {i : It} {is : List (κ × It)} : ItOk K Hh v i → ItK K Hh vs is → ItK K Hh ((k, v) :: vs) ((k, i) :: is)
def NdOk (K : PySem.W.Frag) (Hh H : Hp) (a : Addr) : Nd → Prop
  | .ls is => ∃ vs, H a = some (.lst vs) ∧ ItA K Hh vs is
  | .dc kvs => ∃ us, H a = some (.dK us) ∧ ItK K Hh us kvs
  | .fz kvs => ∃ us, (∃ od, H a = some (.frz od (.dK us))) ∧ ItK K Hh us kvs
  | .tp is => ∃ vs, H a = some (.tup vs) ∧ ItA K Hh vs is
  | .ob C dx fs => ∃ vs, H a = some (.ins C dx vs) ∧ H dx = some (.own a) ∧ ItK K Hh vs fs
def GOk (K : PySem.W.Frag) (Hh H : Hp) : List (Addr × Nd) → Prop
  | [] => True
  | (a, n) :: g => NdOk K Hh H a n ∧ GOk K Hh H g
def SlOk (K : PySem.W.Frag) (Hh H : Hp) : Sl → Option (Option V) → Prop
  | .no, _ => True
  | .im d, o => ∃ v, o = some (some v) ∧ Rp K Hh v d
  | .rf a, o => o = some (some (.ref a))
  | .gs gl, _ => GOk K Hh H gl
  | .ot p t, o => o = some (some (.ref p)) ∧ H p = some (.dT (tabV t))
  | .os p S, o => o = some (some (.ref p)) ∧ ∃ n, H p = some (.set (fun i => decide (i ∈ S)) n) ∧ n ≤ S.length
  | .ol p ds, o => o = some (some (.ref p)) ∧ ∃ vs, H p = some (.lst vs) ∧ RpA K Hh vs ds
  | .od p kvs, o => o = some (some (.ref p)) ∧ ∃ us, H p = some (.dK us) ∧ RpK K Hh us kvs
structure SOk (K : PySem.W.Frag) (B : Bx) (r : List Sl) (H : Hp) (σ : St) : Prop where
  ex : Same B.H0 H
  old : ∀ p ∈ B.ps, B.H0 p ≠ none
  new : ∀ p ∈ own r, B.H0 p = none
  nd : (own r).Nodup
  len : σ.length = r.length
  sl : ∀ (i : Nat) (s : Sl), r[i]? = some s → SlOk K (hid B r H) H s (σ[i]?)
  tb : ∀ t ∈ B.ts, TabG H t
  gr : GOk K (hid B r H) H B.gr
  gp : ∀ p ∈ gown B.gr, p ∈ B.ps

theorem own_mem : ∀ {r : List Sl} {p : Addr}, p ∈ own r → ∃ (i : Nat) (s : Sl), r[i]? = some s ∧ p ∈ ownOf s
  | s :: r, p, h => by
    rcases List.mem_append.mp h with h | h
    · exact ⟨0, s, rfl, h⟩
    · obtain ⟨i, s', e, q⟩ := own_mem h
      exact ⟨i + 1, s', e, q⟩
theorem mem_own : ∀ {r : List Sl} {p : Addr} {i : Nat} {s : Sl}, r[i]? = some s → p ∈ ownOf s → p ∈ own r
  | _ :: _, _, 0, _, e, q => by simp at e; subst e; exact List.mem_append_left _ q
  | _ :: _, _, i + 1, _, e, q => List.mem_append_right _ (mem_own (i := i) (by simpa using e) q)
theorem own_set_mem {s : Sl} : ∀ {r : List Sl} {i : Nat} {p : Addr}, p ∈ own (r.set i s) → p ∈ ownOf s ∨ p ∈ own r
  | [], _, _, h => .inr h
  | _ :: _, 0, _, h => (List.mem_append.mp h).elim .inl fun z => .inr (List.mem_append_right _ z)
  | _ :: _, i + 1, _, h => (List.mem_append.mp h).elim (fun z => .inr (List.mem_append_left _ z)) fun z => (own_set_mem (i := i) z).elim .inl fun y => .inr (List.mem_append_right _ y)
theorem own_set_nd {s : Sl} (hs : (ownOf s).Nodup) : ∀ {r : List Sl} {i : Nat}, (own r).Nodup → (∀ p ∈ ownOf s, p ∉ own r) → (own (r.set i s)).Nodup
  | [], _, h, _ => h
  | a :: r, 0, h, hn => by
    have h2 := (List.nodup_append.mp h).2.1
    exact List.nodup_append.mpr ⟨hs, h2, fun x hx y hy e => hn x hx (List.mem_append_right _ (e ▸ hy))⟩
  | a :: r, i + 1, h, hn => by
    obtain ⟨h1, h2, h3⟩ := List.nodup_append.mp h
    refine List.nodup_append.mpr ⟨h1, own_set_nd hs (i := i) h2 fun p hp z => hn p hp (List.mem_append_right _ z), fun x hx y hy e => ?_⟩
    subst e
    rcases own_set_mem hy with z | z
    · exact hn x z (List.mem_append_left _ hx)
    · exact h3 x hx x z rfl
theorem own_set_eq {s s' : Sl} (e : ownOf s = ownOf s') : ∀ {r : List Sl} {i : Nat}, r[i]? = some s → own (r.set i s') = own r
  | [], _, h => by simp at h
  | a :: r, 0, h => by
    simp at h; subst h
    show ownOf s' ++ own r = ownOf a ++ own r
    rw [e]
  | a :: r, i + 1, h => by
    show ownOf a ++ own (r.set i s') = ownOf a ++ own r
    rw [own_set_eq e (i := i) (by simpa using h)]
theorem own_apart : ∀ {r : List Sl} {i j : Nat} {s s' : Sl} {p : Addr}, (own r).Nodup → r[i]? = some s → r[j]? = some s' → p ∈ ownOf s → p ∈ ownOf s' → i = j
  | [], _, _, _, _, _, _, h, _, _, _ => by simp at h
  | a :: r, 0, 0, _, _, _, _, _, _, _, _ => rfl
  | a :: r, 0, j + 1, s, s', p, nd, h1, h2, q1, q2 => by
    simp at h1; subst h1
    exact absurd rfl ((List.nodup_append.mp nd).2.2 p q1 p (mem_own (i := j) (by simpa using h2) q2))
  | a :: r, i + 1, 0, s, s', p, nd, h1, h2, q1, q2 => by
    simp at h2; subst h2
    exact absurd rfl ((List.nodup_append.mp nd).2.2 p q2 p (mem_own (i := i) (by simpa using h1) q1))
  | a :: r, i + 1, j + 1, s, s', p, nd, h1, h2, q1, q2 => congrArg (· + 1) (own_apart (i := i) (j := j) (List.nodup_append.mp nd).2.1 (by simpa using h1) (by simpa using h2) q1 q2)

section
variable {K : PySem.W.Frag} {B : Bx} {r : List Sl} {H H' : Hp} {σ : St}
theorem ItOk.mono {Hh Hh' : Hp} {v : V} {i : It} (a : Same Hh Hh') (h : ItOk K Hh v i) : ItOk K Hh' v i := by
  cases i with
  | da d => exact Rp.mono a h
  | rf b => exact h
theorem ItA.mono {Hh Hh' : Hp} {vs : List V} {is : List It} (a : Same Hh Hh') (h : ItA K Hh vs is) : ItA K Hh' vs is := by
  induction h with
  | nil => exact .nil
  | cons h _ ih => exact .cons (h.mono a) ih
theorem ItK.mono {Hh Hh' : Hp} {κ : Type} {vs : List (κ × V)} {is : List (κ × It)} (a : Same Hh Hh') (h : ItK K Hh vs is) : ItK K Hh' vs is := by
  induction h with
  | nil => exact .nil
  | cons h _ ih => exact .cons (h.mono a) ih
theorem GOk.mono {Hh Hh' : Hp} (a : Same Hh Hh') : ∀ {gl : List (Addr × Nd)}, (∀ p ∈ gown gl, H' p = H p) → GOk K Hh H gl → GOk K Hh' H' gl
  | [], _, _ => trivial
  | (p, .ls is) :: g, b, ⟨⟨vs, e, q⟩, t⟩ => ⟨⟨vs, (b p List.mem_cons_self).trans e, q.mono a⟩, GOk.mono a (fun x hx => b x (List.mem_cons_of_mem _ hx)) t⟩
  | (p, .tp is) :: g, b, ⟨⟨vs, e, q⟩, t⟩ => ⟨⟨vs, (b p List.mem_cons_self).trans e, q.mono a⟩, GOk.mono a (fun x hx => b x (List.mem_cons_of_mem _ hx)) t⟩
  | (p, .dc is) :: g, b, ⟨⟨vs, e, q⟩, t⟩ => ⟨⟨vs, (b p List.mem_cons_self).trans e, q.mono a⟩, GOk.mono a (fun x hx => b x (List.mem_cons_of_mem _ hx)) t⟩
  | (p, .fz is) :: g, b, ⟨⟨vs, ⟨od, e⟩, q⟩, t⟩ => ⟨⟨vs, ⟨od, (b p List.mem_cons_self).trans e⟩, q.mono a⟩, GOk.mono a (fun x hx => b x (List.mem_cons_of_mem _ hx)) t⟩
  | (p, .ob C dx fs) :: g, b, ⟨⟨vs, e, e2, q⟩, t⟩ => ⟨⟨vs, (b p List.mem_cons_self).trans e, (b dx (List.mem_cons_of_mem _ List.mem_cons_self)).trans e2, q.mono a⟩, GOk.mono a (fun x hx => b x (List.mem_cons_of_mem _ (List.mem_cons_of_mem _ hx))) t⟩
theorem GOk.there {Hh : Hp} : ∀ {gl : List (Addr × Nd)}, GOk K Hh H gl → ∀ {p : Addr}, p ∈ gown gl → ∃ u, H p = some u ∧ NT u
  | (a, .ls is) :: g, ⟨⟨vs, e, q⟩, t⟩, p, hp => (List.mem_cons.mp hp).elim (fun z => z ▸ ⟨_, e, trivial⟩) fun z => GOk.there t z
  | (a, .tp is) :: g, ⟨⟨vs, e, q⟩, t⟩, p, hp => (List.mem_cons.mp hp).elim (fun z => z ▸ ⟨_, e, trivial⟩) fun z => GOk.there t z
  | (a, .dc is) :: g, ⟨⟨vs, e, q⟩, t⟩, p, hp => (List.mem_cons.mp hp).elim (fun z => z ▸ ⟨_, e, trivial⟩) fun z => GOk.there t z
  | (a, .fz is) :: g, ⟨⟨vs, ⟨od, e⟩, q⟩, t⟩, p, hp => (List.mem_cons.mp hp).elim (fun z => z ▸ ⟨_, e, trivial⟩) fun z => GOk.there t z
  | (a, .ob C dx fs) :: g, ⟨⟨vs, e, e2, q⟩, t⟩, p, hp => (List.mem_cons.mp hp).elim (fun z => z ▸ ⟨_, e, trivial⟩) fun z => (List.mem_cons.mp z).elim (fun y => y ▸ ⟨_, e2, trivial⟩) fun y => GOk.there t y
theorem SlOk.mono {Hh Hh' : Hp} {s : Sl} {o : Option (Option V)} (a : Same Hh Hh') (b : ∀ p ∈ ownOf s, H' p = H p) (h : SlOk K Hh H s o) : SlOk K Hh' H' s o := by
  cases s with
  | no => trivial
  | im d => obtain ⟨v, e, q⟩ := h; exact ⟨v, e, q.mono a⟩
  | rf b => exact h
  | gs gl => exact GOk.mono a b h
  | ol p ds => obtain ⟨e, vs, e2, q⟩ := h; exact ⟨e, vs, (b p (List.mem_singleton.mpr rfl)).trans e2, q.mono a⟩
  | od p ds => obtain ⟨e, vs, e2, q⟩ := h; exact ⟨e, vs, (b p (List.mem_singleton.mpr rfl)).trans e2, q.mono a⟩
  | os p S => obtain ⟨e, n, e2, q⟩ := h; exact ⟨e, n, (b p (List.mem_singleton.mpr rfl)).trans e2, q⟩
  | ot p S => exact ⟨h.1, (b p (List.mem_singleton.mpr rfl)).trans h.2⟩
theorem SlOk.there {Hh : Hp} {s : Sl} {o : Option (Option V)} (h : SlOk K Hh H s o) {p : Addr} (hp : p ∈ ownOf s) : ∃ u, H p = some u ∧ NT u := by
  cases s with
  | no => cases hp
  | im d => cases hp
  | rf b => cases hp
  | gs gl => exact GOk.there h hp
  | ol q ds => obtain ⟨_, vs, e2, _⟩ := h; cases List.mem_singleton.mp hp; exact ⟨_, e2, trivial⟩
  | od q ds => obtain ⟨_, vs, e2, _⟩ := h; cases List.mem_singleton.mp hp; exact ⟨_, e2, trivial⟩
  | os q S => obtain ⟨_, vs, e2, _⟩ := h; cases List.mem_singleton.mp hp; exact ⟨_, e2, trivial⟩
  | ot q S => cases List.mem_singleton.mp hp; exact ⟨_, h.2, trivial⟩
theorem SOk.there (S : SOk K B r H σ) {p : Addr} (hp : p ∈ own r) : ∃ u, H p = some u ∧ NT u := by
  obtain ⟨i, s, e, q⟩ := own_mem hp
  exact (S.sl i s e).there q
theorem SOk.dom (S : SOk K B r H σ) : ∀ p ∈ own r ++ B.ps, H p ≠ none := fun p hp z => by
  rcases List.mem_append.mp hp with h | h
  · obtain ⟨u, e, _⟩ := S.there h
    rw [z] at e; cases e
  · cases e : B.H0 p with
    | none => exact S.old p h e
    | some u =>
      have := S.ex p u e
      rw [z] at this; exact this.no
theorem SOk.mono (s : Same H H') (S : SOk K B r H σ) : SOk K B r H' σ :=
  ⟨S.ex.trans s, S.old, S.new, S.nd, S.len, fun i t e => (S.sl i t e).mono (hide_mono s) fun p hp => by
    obtain ⟨u, q, n⟩ := (S.sl i t e).there hp
    rw [q]; exact s.k q n, fun t ht => (S.tb t ht).mono s, GOk.mono (hide_mono s) (fun p hp => by
    obtain ⟨u, q, n⟩ := GOk.there S.gr hp
    rw [q]; exact s.k q n) S.gr, S.gp⟩
/-- the read ghosts are not owned -/
theorem SOk.grn (S : SOk K B r H σ) {p : Addr} (h : p ∈ gown B.gr) : B.H0 p ≠ none := S.old p (S.gp p h)
/-- a slot is stored anew, nothing new is owned -/
theorem SOk.set {i : Nat} {s : Sl} {v : V} (S : SOk K B r H σ) (hs : ownOf s = []) (hv : SlOk K (hid B r H) H s (some (some v))) : SOk K B (r.set i s) H (σ.set i (some v)) := by
  have sub : ∀ p ∈ own (r.set i s), p ∈ own r := fun p hp => (own_set_mem hp).elim (fun z => by rw [hs] at z; cases z) id
  have hh : Same (hid B r H) (hid B (r.set i s) H) := hide_sub fun p hp => (List.mem_append.mp hp).elim (fun z => List.mem_append_left _ (sub p z)) fun z => List.mem_append_right _ z
  refine ⟨S.ex, S.old, fun p hp => S.new p (sub p hp), own_set_nd (by rw [hs]; exact List.nodup_nil) S.nd (fun p hp => by rw [hs] at hp; cases hp), by rw [List.length_set, List.length_set]; exact S.len, fun j t e => ?_, S.tb, GOk.mono hh (fun _ _ => rfl) S.gr, S.gp⟩
  by_cases hj : i = j
  · subst hj
    have hi : i < r.length := by
      have := (List.getElem?_eq_some_iff.mp e).1
      rwa [List.length_set] at this
    rw [List.getElem?_set_self hi] at e
    cases e
    rw [List.getElem?_set_self (by rw [S.len]; exact hi)]
    exact hv.mono hh fun _ _ => rfl
  · rw [List.getElem?_set_ne hj] at e ⊢
    exact (S.sl j t e).mono hh fun _ _ => rfl
theorem SOk.setNo {i : Nat} (S : SOk K B r H σ) : SOk K B (r.set i .no) H (σ.set i none) := by
  have sub : ∀ p ∈ own (r.set i .no), p ∈ own r := fun p hp => (own_set_mem hp).elim (fun z => by cases z) id
  have hh : Same (hid B r H) (hid B (r.set i .no) H) := hide_sub fun p hp => (List.mem_append.mp hp).elim (fun z => List.mem_append_left _ (sub p z)) fun z => List.mem_append_right _ z
  refine ⟨S.ex, S.old, fun p hp => S.new p (sub p hp), own_set_nd (s := .no) List.nodup_nil S.nd (fun p hp => by cases hp), by rw [List.length_set, List.length_set]; exact S.len, fun j t e => ?_, S.tb, GOk.mono hh (fun _ _ => rfl) S.gr, S.gp⟩
  by_cases hj : i = j
  · subst hj
    have hi : i < r.length := by
      have := (List.getElem?_eq_some_iff.mp e).1
      rwa [List.length_set] at this
    rw [List.getElem?_set_self hi] at e
    cases e
    trivial
  · rw [List.getElem?_set_ne hj] at e ⊢
    exact (S.sl j t e).mono hh fun _ _ => rfl
theorem SOk.im {i : Nat} {v : V} {d : D} (S : SOk K B r H σ) (h : Rp K (hid B r H) v d) : SOk K B (r.set i (.im d)) H (σ.set i (some v)) := S.set rfl ⟨v, rfl, h⟩
/-- a new owned object -/
theorem SOk.put {i : Nat} {s : Sl} {p : Addr} {o : HO} (S : SOk K B r H σ) (hs : ownOf s = [p]) (hp : H p = none) (hv : SlOk K (hid B r H) (upd H p o) s (some (some (.ref p)))) : SOk K B (r.set i s) (upd H p o) (σ.set i (some (.ref p))) := by
  have pn : p ∉ own r := fun z => by
    obtain ⟨u, e, _⟩ := S.there z
    rw [hp] at e; cases e
  have p0 : B.H0 p = none := by
    cases e : B.H0 p with
    | none => rfl
    | some u => have := S.ex p u e; rw [hp] at this; exact this.no.elim
  have sub : ∀ q ∈ own (r.set i s), q = p ∨ q ∈ own r := fun q hq => (own_set_mem hq).elim (fun z => by rw [hs] at z; exact .inl (List.mem_singleton.mp z)) .inr
  have hh : Same (hid B r H) (hid B (r.set i s) (upd H p o)) := fun a u e => by
    have e : hide H (own r ++ B.ps) a = some u := e
    show Ext1 u (hide (upd H p o) (own (r.set i s) ++ B.ps) a)
    by_cases ha : a ∈ own r ++ B.ps
    · rw [hide_in ha] at e; cases e
    · rw [hide_out ha] at e
      have np : a ≠ p := ne_of_none e hp
      rw [hide_out fun z => ha ((List.mem_append.mp z).elim (fun y => (sub a y).elim (fun w => absurd w np) fun w => List.mem_append_left _ w) fun y => List.mem_append_right _ y), upd_ne np]
      exact .inl e
  refine ⟨fun a u e => by rw [upd_ne (ne_of_none e p0)]; exact S.ex a u e, S.old, fun q hq => (sub q hq).elim (fun z => z ▸ p0) (S.new q), own_set_nd (by rw [hs]; exact List.nodup_cons.mpr ⟨List.not_mem_nil, List.nodup_nil⟩) S.nd (fun q hq => by rw [hs] at hq; cases List.mem_singleton.mp hq; exact pn), by rw [List.length_set, List.length_set]; exact S.len, fun j t e => ?_, fun t ht => (S.tb t ht).mono (same_new hp), GOk.mono hh (fun q hq => upd_ne fun z => S.grn hq (z ▸ p0)) S.gr, S.gp⟩
  by_cases hj : i = j
  · subst hj
    have hi : i < r.length := by
      have := (List.getElem?_eq_some_iff.mp e).1
      rwa [List.length_set] at this
    rw [List.getElem?_set_self hi] at e
    cases e
    rw [List.getElem?_set_self (by rw [S.len]; exact hi)]
    exact hv.mono hh fun _ _ => rfl
  · rw [List.getElem?_set_ne hj] at e ⊢
    refine (S.sl j t e).mono hh fun q hq => ?_
    rw [upd_ne]
    rintro rfl
    exact pn (mem_own e hq)
/-- an owned object is changed -/
theorem SOk.turn {i : Nat} {s s' : Sl} {p : Addr} {o : HO} (S : SOk K B r H σ) (hi : r[i]? = some s) (hs : ownOf s = [p]) (hs' : ownOf s' = [p]) (hv : SlOk K (hid B r H) (upd H p o) s' (σ[i]?)) : SOk K B (r.set i s') (upd H p o) σ := by
  have oe : own (r.set i s') = own r := own_set_eq (hs.trans hs'.symm) hi
  have pin : p ∈ own r := mem_own hi (by rw [hs]; exact List.mem_singleton.mpr rfl)
  have hh : Same (hid B r H) (hid B (r.set i s') (upd H p o)) := by
    show Same (hide H (own r ++ B.ps)) (hide (upd H p o) (own (r.set i s') ++ B.ps))
    rw [oe]
    exact hide_upd (List.mem_append_left _ pin)
  refine ⟨fun a u e => by rw [upd_ne (ne_of_none e (S.new p pin))]; exact S.ex a u e, S.old, by rw [oe]; exact S.new, by rw [oe]; exact S.nd, by rw [List.length_set]; exact S.len, fun j t e => ?_, fun t ht => ?_, GOk.mono hh (fun q hq => upd_ne fun z => S.grn hq (z ▸ S.new p pin)) S.gr, S.gp⟩
  by_cases hj : i = j
  · subst hj
    have hi' : i < r.length := (List.getElem?_eq_some_iff.mp hi).1
    rw [List.getElem?_set_self hi'] at e
    cases e
    exact hv.mono hh fun _ _ => rfl
  · rw [List.getElem?_set_ne hj] at e
    refine (S.sl j t e).mono hh fun q hq => ?_
    rw [upd_ne]
    rintro rfl
    exact hj (own_apart S.nd hi e (by rw [hs]; exact List.mem_singleton.mpr rfl) hq)
  · obtain ⟨u, eu, nt⟩ := S.there pin
    have := (S.tb t ht).ne eu nt
    exact (S.tb t ht).ext fun o eo => .inl ((upd_ne this).trans eo)
end
/-- what may be forgotten -/
inductive Frz : Addr → Sl → Sl → Prop
  | lst {p : Addr} {ds : List D} : Frz p (.ol p ds) (.im (.list ds))
  | dct {p : Addr} {ds : List (Key × D)} : Frz p (.od p ds) (.im (.dict (ds.map kdm)))
  | tab {p : Addr} {t : List (List Int × Int)} : Frz p (.ot p t) (.im (tabD t))
inductive Wk : List Sl → List Sl → Prop
  | nil : Wk [] []
  | no {s : Sl} {r q : List Sl} : Wk r q → Wk (s :: r) (.no :: q)
  | same {s : Sl} {r q : List Sl} : Wk r q → Wk (s :: r) (s :: q)
  /-- something owned is owned no more: data from now on -/
  | frz {p : Addr} {s t : Sl} {r q : List Sl} : Frz p s t → Wk r q → Wk (s :: r) (t :: q)
theorem Wk.lst {p : Addr} {ds : List D} {r q : List Sl} (h : Wk r q) : Wk (.ol p ds :: r) (.im (.list ds) :: q) := .frz .lst h
theorem Wk.dct {p : Addr} {ds : List (Key × D)} {r q : List Sl} (h : Wk r q) : Wk (.od p ds :: r) (.im (.dict (ds.map kdm)) :: q) := .frz .dct h
theorem Wk.tab {p : Addr} {t : List (List Int × Int)} {r q : List Sl} (h : Wk r q) : Wk (.ot p t :: r) (.im (tabD t) :: q) := .frz .tab h
theorem Frz.own1 {p : Addr} {s t : Sl} (h : Frz p s t) : ownOf s = [p] ∧ ownOf t = [] := by cases h <;> exact ⟨rfl, rfl⟩
theorem Wk.refl : ∀ (r : List Sl), Wk r r
  | [] => .nil
  | _ :: r => .same (Wk.refl r)
theorem Wk.own : ∀ {r q : List Sl}, Wk r q → (own q).Sublist (own r)
  | _, _, .nil => List.Sublist.refl _
  | _, _, .no (s := s) h => h.own.trans (List.sublist_append_right _ _)
  | _, _, .same h => List.Sublist.append (List.Sublist.refl _) h.own
  | _, _, .frz (t := t) (r := r) (q := q) f h => by
    show (ownOf t ++ Tp.own q).Sublist _
    rw [f.own1.2]
    exact h.own.trans (List.sublist_append_right _ _)
theorem Wk.len : ∀ {r q : List Sl}, Wk r q → q.length = r.length
  | _, _, .nil => rfl
  | _, _, .no h => congrArg (· + 1) h.len
  | _, _, .same h => congrArg (· + 1) h.len
  | _, _, .frz _ h => congrArg (· + 1) h.len
theorem Wk.at : ∀ {r q : List Sl} {i : Nat} {s : Sl}, Wk r q → q[i]? = some s → s = .no ∨ r[i]? = some s ∨ ∃ p s', r[i]? = some s' ∧ Frz p s' s ∧ ((Tp.own r).Nodup → p ∉ Tp.own q)
  | _, _, _, _, .nil, e => by simp at e
  | _, _, 0, _, .no h, e => by simp at e; exact .inl e.symm
  | _, _, 0, _, .same h, e => by simp at e; subst e; exact .inr (.inl rfl)
  | _, _, 0, _, .frz (p := p) (s := s) (t := t) (r := r) (q := q) f h, e => by
    simp at e; subst e
    refine .inr (.inr ⟨p, s, rfl, f, fun nd z => ?_⟩)
    have nd : (ownOf s ++ Tp.own r).Nodup := nd
    have z : p ∈ ownOf t ++ Tp.own q := z
    rw [f.own1.1] at nd
    rw [f.own1.2] at z
    exact (List.nodup_append.mp nd).2.2 p (List.mem_singleton.mpr rfl) p (h.own.subset z) rfl
  | _, _, i + 1, s, .no (s := t) h, e => by
    rcases Wk.at (i := i) h (by simpa using e) with z | z | ⟨p, ds, z1, z2, z3⟩
    · exact .inl z
    · exact .inr (.inl (by simpa using z))
    · exact .inr (.inr ⟨p, ds, by simpa using z1, z2, fun nd => z3 (List.nodup_append.mp nd).2.1⟩)
  | _, _, i + 1, s, .same (s := t) h, e => by
    rcases Wk.at (i := i) h (by simpa using e) with z | z | ⟨p, ds, z1, z2, z3⟩
    · exact .inl z
    · exact .inr (.inl (by simpa using z))
    · exact .inr (.inr ⟨p, ds, by simpa using z1, z2, fun nd m => (List.mem_append.mp m).elim (fun y => (List.nodup_append.mp nd).2.2 p y p (mem_own z1 (by rw [z2.own1.1]; exact List.mem_singleton.mpr rfl)) rfl) (z3 (List.nodup_append.mp nd).2.1)⟩)
  | _, _, i + 1, s, .frz (p := p0) (t := t) (q := q) f h, e => by
    rcases Wk.at (i := i) h (by simpa using e) with z | z | ⟨p, ds, z1, z2, z3⟩
    · exact .inl z
    · exact .inr (.inl (by simpa using z))
    · refine .inr (.inr ⟨p, ds, by simpa using z1, z2, fun nd m => z3 (List.nodup_append.mp nd).2.1 ?_⟩)
      have m : p ∈ ownOf t ++ Tp.own q := m
      rw [f.own1.2] at m
      exact m
theorem SOk.weak {K : PySem.W.Frag} {B : Bx} {r q : List Sl} {H : Hp} {σ : St} (w : Wk r q) (S : SOk K B r H σ) : SOk K B q H σ := by
  have sub := w.own.subset
  have hh : Same (hid B r H) (hid B q H) := hide_sub fun p hp => (List.mem_append.mp hp).elim (fun z => List.mem_append_left _ (sub z)) fun z => List.mem_append_right _ z
  have vis : ∀ p, p ∈ Tp.own r → p ∉ Tp.own q → ∀ o, H p = some o → hid B q H p = some o := fun p h1 h2 o e => by
    show hide H (own q ++ B.ps) p = some o
    rw [hide_out fun z => (List.mem_append.mp z).elim h2 fun y => S.old p y (S.new p h1)]; exact e
  refine ⟨S.ex, S.old, fun p hp => S.new p (sub hp), List.Sublist.nodup w.own S.nd, S.len.trans w.len.symm, fun i s e => ?_, S.tb, GOk.mono hh (fun _ _ => rfl) S.gr, S.gp⟩
  rcases w.at e with z | z | ⟨p, s', z1, f, z3⟩
  · subst z; trivial
  · exact (S.sl i s z).mono hh fun _ _ => rfl
  · have vs : ∀ o, H p = some o → hid B q H p = some o := vis p (mem_own z1 (by rw [f.own1.1]; exact List.mem_singleton.mpr rfl)) (z3 S.nd)
    cases f with
    | lst =>
      obtain ⟨e1, us, e2, a⟩ := S.sl i _ z1
      exact ⟨_, e1, .lst (SqL.of (vs _ e2)) (a.mono hh)⟩
    | dct =>
      obtain ⟨e1, us, e2, a⟩ := S.sl i _ z1
      exact ⟨_, e1, .dct (vs _ e2) (a.mono hh)⟩
    | tab =>
      obtain ⟨e1, e2⟩ := S.sl i _ z1
      exact ⟨_, e1, .tab (vs _ e2)⟩
end Tp

namespace Tp
open PySem L2

/-! ### expressions -/
section
variable (X : Cx) (B : Bx)
/-- e evaluates to data d -/
def EV (e : Expr) (r : List Sl) (d : D) : Prop :=
  ∃ te, PE X e te ∧ ∀ H σ, SOk X.K B r H σ → ∀ Q : VK, (∀ v H', Same H H' → Rp X.K (hid B r H') v d → Q v H') → te σ H Q
/-- .. it may be something owned -/
def EH (e : Expr) (r : List Sl) (d : D) : Prop :=
  ∃ te, PE X e te ∧ ∀ H σ, SOk X.K B r H σ → ∀ Q : VK, (∀ v H', Same H H' → Rp X.K H' v d → Q v H') → te σ H Q
/-- a list (a tuple) whose items are not owned -/
def ES (e : Expr) (r : List Sl) (tp : Bool) (ds : List D) : Prop :=
  ∃ te, PE X e te ∧ ∀ H σ, SOk X.K B r H σ → ∀ Q : VK, (∀ a vs H', Same H H' → (if tp = true then SqT X.K H' a vs else SqL X.K H' a vs) → RpA X.K (hid B r H') vs ds → Q (.ref a) H') → te σ H Q
/-- a dict -/
def EK (e : Expr) (r : List Sl) (ps : List (Key × D)) : Prop :=
  ∃ te, PE X e te ∧ ∀ H σ, SOk X.K B r H σ → ∀ Q : VK, (∀ a us H', Same H H' → H' a = some (.dK us) → RpK X.K (hid B r H') us ps → Q (.ref a) H') → te σ H Q
/-- a new object: owned from now on -/
def EN (e : Expr) (r : List Sl) (s : Addr → Sl) : Prop :=
  ∃ te, PE X e te ∧ ∀ H σ, SOk X.K B r H σ → ∀ Q : VK, (∀ p o H', Same H H' → H' p = none → ownOf (s p) = [p] → SlOk X.K (hid B r H') (upd H' p o) (s p) (some (some (.ref p))) → Q (.ref p) (upd H' p o)) → te σ H Q
/-- an argument list -/
def EA (es : List Expr) (r : List Sl) (ds : List D) : Prop :=
  ∃ ta, PA X es ta ∧ ∀ H σ, SOk X.K B r H σ → ∀ Q : List V → Hp → Prop, (∀ vs H', Same H H' → RpA X.K (hid B r H') vs ds → Q vs H') → ta σ H Q
/-- a test -/
def ET (e : Expr) (r : List Sl) (b : Bool) : Prop :=
  ∃ tt, PT X e tt ∧ ∀ H σ, SOk X.K B r H σ → ∀ Q : Bool → Hp → Prop, (∀ H', Same H H' → Q b H') → tt σ H Q
def EW (e : Expr) (r : List Sl) (b : Bool) : Prop :=
  ∃ tt, PW X e tt ∧ ∀ H σ, SOk X.K B r H σ → ∀ Q : Bool → Hp → Prop, (∀ H', Same H H' → Q b H') → tt σ H Q
end

theorem seqS {K : PySem.W.Frag} {H H' : Hp} {tp : Bool} {a : Addr} {vs : List V} (s : Same H H') (h : if tp = true then SqT K H a vs else SqL K H a vs) : if tp = true then SqT K H' a vs else SqL K H' a vs := by
  cases tp with
  | true => exact seqT s h
  | false => exact s.seq h
theorem seqO {K : PySem.W.Frag} {H : Hp} {tp : Bool} {a : Addr} {vs : List V} (h : if tp = true then SqT K H a vs else SqL K H a vs) : SqL K H a vs ∨ SqT K H a vs := by
  cases tp with
  | true => exact .inr h
  | false => exact .inl h

section
variable {X : Cx} {B : Bx} {r : List Sl} {e a b c : Expr} {es : List Expr} {d dx dy dz : D} {ds : List D} {pos : Pos} {tp : Bool}
theorem EV.h (h : EV X B e r d) : EH X B e r d := by
  obtain ⟨te, p, k⟩ := h
  exact ⟨te, p, fun H σ S Q q => k H σ S Q fun v H' s y => q v H' s (y.mono hide_same)⟩
theorem EV.to (h : EV X B e r d) (q : d = dx) : EV X B e r dx := q ▸ h
theorem ET.to {x y : Bool} (h : ET X B e r x) (q : x = y) : ET X B e r y := q ▸ h

/-! constants, names -/
theorem evI {i : Int} {k : Nat} : EV X B (.Constant (.int i) k pos) r (.int i) := ⟨_, pe_int, fun H σ _ Q q => q _ H (Same.refl _) (.int i)⟩
theorem evB {i : Bool} {k : Nat} : EV X B (.Constant (.bool i) k pos) r (.bool i) := ⟨_, pe_bl, fun H σ _ Q q => q _ H (Same.refl _) (.bl i)⟩
theorem evN {k : Nat} : EV X B (.Constant .none k pos) r .none := ⟨_, pe_non, fun H σ _ Q q => q _ H (Same.refl _) .non⟩
theorem evStr {i : Str} {k : Nat} : EV X B (.Constant (.str i) k pos) r (.str i) := ⟨_, pe_str, fun H σ _ Q q => q _ H (Same.refl _) (.str i)⟩
theorem evV (i : Nat) {x : Str} (h : r[i]? = some (.im d)) (hN : X.N[i]? = some x := by rfl) (hv : Vis X.env.scope x := by first | exact Or.inl rfl | exact Or.inr (Or.inl rfl) | exact Or.inr (Or.inr rfl)) (hd : (x == ("__debug__" : Str)) = false := by decide) (hcd : (x == ("__classdict__" : Str)) = false := by decide) :
    EV X B (.Name x pos) r d := ⟨_, pe_var hN hv hd hcd, fun H σ S Q q => by
      obtain ⟨v, e, y⟩ := S.sl i _ h
      exact ⟨v, e, q v H (Same.refl _) y⟩⟩
/-- a name that holds an owned list: as a sequence; as a thing to be compared -/
theorem esO (i : Nat) {x : Str} {p : Addr} (h : r[i]? = some (.ol p ds)) (hN : X.N[i]? = some x := by rfl) (hv : Vis X.env.scope x := by first | exact Or.inl rfl | exact Or.inr (Or.inl rfl) | exact Or.inr (Or.inr rfl)) (hd : (x == ("__debug__" : Str)) = false := by decide) (hcd : (x == ("__classdict__" : Str)) = false := by decide) :
    ES X B (.Name x pos) r false ds := ⟨_, pe_var hN hv hd hcd, fun H σ S Q q => by
      obtain ⟨e, vs, y, z⟩ := S.sl i _ h
      exact ⟨_, e, q p vs H (Same.refl _) (SqL.of y) z⟩⟩
theorem ES.h (h : ES X B e r false ds) : EH X B e r (.list ds) := by
  obtain ⟨te, p, k⟩ := h
  exact ⟨te, p, fun H σ S Q q => k H σ S Q fun a vs H' s y z => q _ H' s (.lst y (z.mono hide_same))⟩
theorem ES.hT (h : ES X B e r true ds) : EH X B e r (.tuple ds) := by
  obtain ⟨te, p, k⟩ := h
  exact ⟨te, p, fun H σ S Q q => k H σ S Q fun a vs H' s y z => q _ H' s (.tup y (z.mono hide_same))⟩
theorem EV.seq (h : EV X B e r (.list ds)) : ES X B e r false ds := by
  obtain ⟨te, p, k⟩ := h
  refine ⟨te, p, fun H σ S Q q => k H σ S Q fun v H' s y => ?_⟩
  cases y with
  | lst h1 h2 => exact q _ _ H' s (hide_same.seq h1) h2
theorem EV.seqT (h : EV X B e r (.tuple ds)) : ES X B e r true ds := by
  obtain ⟨te, p, k⟩ := h
  refine ⟨te, p, fun H σ S Q q => k H σ S Q fun v H' s y => ?_⟩
  cases y with
  | tup h1 h2 => exact q _ _ H' s (Tp.seqT hide_same h1) h2
theorem EV.dct {ps : List (Key × D)} (h : EV X B e r (.dict (ps.map kdm))) : EK X B e r ps := by
  obtain ⟨te, p, k⟩ := h
  refine ⟨te, p, fun H σ S Q q => k H σ S Q fun v H' s y => ?_⟩
  generalize ed : ps.map kdm = qs at y
  cases y with
  | dct h1 h2 =>
    exact q _ _ H' s (hide_same.k h1) (kdm_inj ed ▸ h2)
  | tab h1 =>
    cases ps with
    | nil => cases ed
    | cons x ps =>
      injection ed with e1 e2
      injection e1 with e3 e4
      obtain ⟨kk, dd⟩ := x
      cases kk <;> cases e3
theorem ekO (i : Nat) {x : Str} {p : Addr} {kvs : List (Key × D)} (h : r[i]? = some (.od p kvs)) (hN : X.N[i]? = some x := by rfl) (hv : Vis X.env.scope x := by first | exact Or.inl rfl | exact Or.inr (Or.inl rfl) | exact Or.inr (Or.inr rfl)) (hd : (x == ("__debug__" : Str)) = false := by decide) (hcd : (x == ("__classdict__" : Str)) = false := by decide) :
    EK X B (.Name x pos) r kvs := ⟨_, pe_var hN hv hd hcd, fun H σ S Q q => by
      obtain ⟨e, us, y, z⟩ := S.sl i _ h
      exact ⟨_, e, q p us H (Same.refl _) y z⟩⟩
/-- a module's constant -/
theorem evG {x : Str} {v : V} {u : Value} (hm : X.mg x = some u) (rv : RelV v u) (hd : Rp X.K (fun _ => none) v d) (hg : Gl X x := by rfl) (hdb : (x == ("__debug__" : Str)) = false := by decide) : EV X B (.Name x pos) r d :=
  ⟨_, pe_glob hg hm rv hdb, fun H σ _ Q q => q v H (Same.refl _) (hd.mono fun _ _ z => by cases z)⟩

/-! operators -/
/-- a two-place operator on data -/
def OV (X : Cx) (op : Operator) (dx dy dz : D) : Prop :=
  ∃ rr : R2, OpR X (binaryOp op) rr ∧ ∀ (ps : List Addr) (H : Hp) (x y : V), (∀ p ∈ ps, H p ≠ none) → Rp X.K (hide H ps) x dx → Rp X.K (hide H ps) y dy → ∀ Q : VK, (∀ v H', Same H H' → Rp X.K (hide H' ps) v dz → Q v H') → rr x y H Q
theorem evBin {op : Operator} (ha : EV X B a r dx) (hb : EV X B b r dy) (ho : OV X op dx dy dz) : EV X B (.BinOp a op b pos) r dz := by
  obtain ⟨ta, pa, ka⟩ := ha
  obtain ⟨tb, pb, kb⟩ := hb
  obtain ⟨rr, po, ko⟩ := ho
  exact ⟨_, pe_op po pa pb, fun H σ S Q q => ka H σ S _ fun x H1 s1 r1 => kb H1 σ (S.mono s1) _ fun y H2 s2 r2 =>
    ko _ H2 x y (S.mono (s1.trans s2)).dom (r1.mono (hide_mono s2)) r2 Q fun v H3 s3 r3 => q v H3 (s1.trans (s2.trans s3)) r3⟩
theorem ov_I0 {op : Operator} {g : Int → Int → V} {gd : Int → Int → D} (h : OpR X (binaryOp op) (rI0 g)) (hg : ∀ i j H, Rp X.K H (g i j) (gd i j)) (i j : Int) : OV X op (.int i) (.int j) (gd i j) :=
  ⟨_, h, fun ps H x y _ rx ry Q q => by cases rx; cases ry; exact ⟨i, j, rfl, rfl, q _ H (Same.refl _) (hg i j _)⟩⟩
theorem ov_I {op : Operator} {C : Int → Int → Prop} {g : Int → Int → V} {gd : Int → Int → D} (h : OpR X (binaryOp op) (rI C g)) (hg : ∀ i j H, Rp X.K H (g i j) (gd i j)) (i j : Int) (hc : C i j) : OV X op (.int i) (.int j) (gd i j) :=
  ⟨_, h, fun ps H x y _ rx ry Q q => by cases rx; cases ry; exact ⟨i, j, rfl, rfl, hc, q _ H (Same.refl _) (hg i j _)⟩⟩
theorem ov_add {i j : Int} : OV X .Add (.int i) (.int j) (.int (i + j)) := ov_I0 op_add (gd := fun i j => .int (i + j)) (fun _ _ _ => .int _) i j
theorem ov_sub {i j : Int} : OV X .Sub (.int i) (.int j) (.int (i - j)) := ov_I0 op_sub (gd := fun i j => .int (i - j)) (fun _ _ _ => .int _) i j
theorem ov_mul {i j : Int} (h : CMul i j) : OV X .Mult (.int i) (.int j) (.int (i * j)) := ov_I op_mul (gd := fun i j => .int (i * j)) (fun _ _ _ => .int _) i j h
theorem ov_mulW {i j : Int} (h : CMulW i j) : OV X .Mult (.int i) (.int j) (.int (i * j)) := ov_I op_mulW (gd := fun i j => .int (i * j)) (fun _ _ _ => .int _) i j h
theorem ov_div {i j : Int} (h : CDiv i j) : OV X .FloorDiv (.int i) (.int j) (.int (i / j)) := ov_I op_fdiv (gd := fun i j => .int (i / j)) (fun _ _ _ => .int _) i j h
theorem ov_divW {i j : Int} (h : CDivW i j) : OV X .FloorDiv (.int i) (.int j) (.int (i / j)) := ov_I op_fdivW (gd := fun i j => .int (i / j)) (fun _ _ _ => .int _) i j h
theorem ov_mod {i j : Int} (h : 0 < j) : OV X .Mod (.int i) (.int j) (.int (i % j)) := ov_I op_mod (gd := fun i j => .int (i % j)) (fun _ _ _ => .int _) i j h
theorem ov_pow {i j k : Int} (h : CPow i j) (e : i ^ j.toNat = k) : OV X .Pow (.int i) (.int j) (.int k) := e ▸ ov_I op_pow (gd := fun i j => .int (i ^ j.toNat)) (fun _ _ _ => .int _) i j h
theorem ov_pow15 : OV X .Pow (.int 10) (.int 15) (.int 1000000000000000) := ov_pow ⟨by decide, by decide, by decide⟩ (by decide)
theorem ov_pow12 : OV X .Pow (.int 10) (.int 12) (.int 1000000000000) := ov_pow ⟨by decide, by decide, by decide⟩ (by decide)
theorem ov_pow9 : OV X .Pow (.int 10) (.int 9) (.int 1000000000) := ov_pow ⟨by decide, by decide, by decide⟩ (by decide)
theorem ov_pow18 : OV X .Pow (.int 10) (.int 18) (.int 1000000000000000000) := ov_pow ⟨by decide, by decide, by decide⟩ (by decide)
/-- tuples, lists put together -/
theorem ov_catT {xs ys : List D} (hx : xs ≠ []) (hl : xs.length + ys.length ≤ sizeLine) : OV X .Add (.tuple xs) (.tuple ys) (.tuple (xs ++ ys)) :=
  ⟨_, op_catT, fun ps H x y hd rx ry Q q => by
    cases rx with
    | tup h1 a1 =>
      cases ry with
      | tup h2 a2 =>
        have l1 := a1.len
        have l2 := a2.len
        refine ⟨_, _, _, _, rfl, rfl, Tp.seqT hide_same h1, Tp.seqT hide_same h2, fun z => hx ?_, by omega, fun z => ?_, fun z p hp => ?_⟩
        · subst z; cases a1; rfl
        · subst z; cases a2
          refine q _ H (Same.refl _) (.tup h1 ?_)
          rw [List.append_nil]; exact a1
        · refine q _ _ (same_new hp) (.tup (SqT.of (hide_new hp hd)) ?_)
          exact ((a1.app a2).mono (hide_mono (same_new hp)))⟩

/-! comparisons -/
def CV (X : Cx) (op : CmpOp) (dx dy : D) (b : Bool) : Prop :=
  ∃ rr : R2, OpR X (compareOp op) rr ∧ ∀ (H : Hp) (x y : V), Rp X.K H x dx → Rp X.K H y dy → ∀ Q : VK, Q (.bl b) H → rr x y H Q
theorem CV.to {op : CmpOp} {k k' : Bool} (h : CV X op dx dy k) (e : k = k') : CV X op dx dy k' := e ▸ h
theorem cv_I0 {op : CmpOp} {g : Int → Int → Bool} (h : OpR X (compareOp op) (rI0 fun i j => .bl (g i j))) (i j : Int) : CV X op (.int i) (.int j) (g i j) :=
  ⟨_, h, fun H x y rx ry Q q => by cases rx; cases ry; exact ⟨i, j, rfl, rfl, q⟩⟩
theorem cv_lt {i j : Int} : CV X .Lt (.int i) (.int j) (decide (i < j)) := cv_I0 op_lt i j
theorem cv_le {i j : Int} : CV X .LtE (.int i) (.int j) (decide (i ≤ j)) := cv_I0 op_le i j
theorem cv_gt {i j : Int} : CV X .Gt (.int i) (.int j) (decide (j < i)) := cv_I0 op_gt i j
theorem cv_ge {i j : Int} : CV X .GtE (.int i) (.int j) (decide (j ≤ i)) := cv_I0 op_ge i j
theorem dec_eqv {p q : Prop} [Decidable p] [Decidable q] (h : p ↔ q) : decide p = decide q := by
  by_cases hp : p
  · rw [decide_eq_true hp, decide_eq_true (h.mp hp)]
  · rw [decide_eq_false hp, decide_eq_false fun z => hp (h.mpr z)]
theorem cv_eqI {i j : Int} : CV X .Eq (.int i) (.int j) (decide (i = j)) :=
  ⟨_, op_eq, fun H x y rx ry Q q => by cases rx; cases ry; exact ⟨rfl, by rw [dec_eqv (show V.int i = V.int j ↔ i = j from ⟨fun z => V.int.inj z, fun z => z ▸ rfl⟩)]; exact q⟩⟩
theorem cv_neI {i j : Int} : CV X .NotEq (.int i) (.int j) (!decide (i = j)) :=
  ⟨_, op_ne, fun H x y rx ry Q q => by cases rx; cases ry; exact ⟨rfl, by rw [dec_eqv (show V.int i = V.int j ↔ i = j from ⟨fun z => V.int.inj z, fun z => z ▸ rfl⟩)]; exact q⟩⟩
theorem cv_eqB {i j : Bool} : CV X .Eq (.bool i) (.bool j) (decide (i = j)) :=
  ⟨_, op_eq, fun H x y rx ry Q q => by cases rx; cases ry; exact ⟨rfl, by rw [dec_eqv (show V.bl i = V.bl j ↔ i = j from ⟨fun z => V.bl.inj z, fun z => z ▸ rfl⟩)]; exact q⟩⟩
theorem cv_neB {i j : Bool} : CV X .NotEq (.bool i) (.bool j) (!decide (i = j)) :=
  ⟨_, op_ne, fun H x y rx ry Q q => by cases rx; cases ry; exact ⟨rfl, by rw [dec_eqv (show V.bl i = V.bl j ↔ i = j from ⟨fun z => V.bl.inj z, fun z => z ▸ rfl⟩)]; exact q⟩⟩
theorem cv_eqS {i j : Str} : CV X .Eq (.str i) (.str j) (decide (i = j)) :=
  ⟨_, op_eq, fun H x y rx ry Q q => by cases rx; cases ry; exact ⟨rfl, by rw [dec_eqv (show V.str i = V.str j ↔ i = j from ⟨fun z => V.str.inj z, fun z => z ▸ rfl⟩)]; exact q⟩⟩
theorem cv_neS {i j : Str} : CV X .NotEq (.str i) (.str j) (!decide (i = j)) :=
  ⟨_, op_ne, fun H x y rx ry Q q => by cases rx; cases ry; exact ⟨rfl, by rw [dec_eqv (show V.str i = V.str j ↔ i = j from ⟨fun z => V.str.inj z, fun z => z ▸ rfl⟩)]; exact q⟩⟩
def isN : D → Bool
  | .none => true
  | _ => false
theorem Rp.isN {K : PySem.W.Frag} {H : Hp} {v : V} (h : Rp K H v d) : decide (v = .non) = Tp.isN d := by cases h <;> rfl
theorem cv_isN : CV X .Is d .none (isN d) := ⟨_, op_isN, fun H x y rx ry Q q => by cases ry; exact ⟨rfl, by rw [rx.isN]; exact q⟩⟩
theorem cv_notN : CV X .IsNot d .none (!isN d) := ⟨_, op_notN, fun H x y rx ry Q q => by cases ry; exact ⟨rfl, by rw [rx.isN]; exact q⟩⟩
theorem cv_isB {i j : Bool} : CV X .Is (.bool i) (.bool j) (decide (i = j)) := ⟨_, op_isBl, fun H x y rx ry Q q => by cases rx; cases ry; exact ⟨i, j, rfl, rfl, q⟩⟩
theorem cv_notB {i j : Bool} : CV X .IsNot (.bool i) (.bool j) (!decide (i = j)) := ⟨_, op_notBl, fun H x y rx ry Q q => by cases rx; cases ry; exact ⟨i, j, rfl, rfl, q⟩⟩
theorem evCmp {op : CmpOp} {k : Bool} (ha : EH X B a r dx) (hb : EH X B b r dy) (ho : CV X op dx dy k) (hm : behindInMarks op b = false := by first | exact nomark _ | rfl) : EV X B (.Compare a [op] [b] pos) r (.bool k) := by
  obtain ⟨ta, pa, ka⟩ := ha
  obtain ⟨tb, pb, kb⟩ := hb
  obtain ⟨rr, po, ko⟩ := ho
  exact ⟨_, pe_cmpR po pa pb hm, fun H σ S Q q => ka H σ S _ fun x H1 s1 r1 => kb H1 σ (S.mono s1) _ fun y H2 s2 r2 =>
    ko H2 x y (r1.mono s2) r2 Q (q _ H2 (s1.trans s2) (.bl k))⟩
/-- a op b op' c -/
theorem evChain {op op' : CmpOp} {k k' : Bool} (ha : EH X B a r dx) (hb : EH X B b r dy) (hc : EH X B c r dz) (ho : CV X op dx dy k) (ho' : CV X op' dy dz k') (hm : lastMarks [op, op'] [b, c] = false := by with_unfolding_all rfl) :
    EV X B (.Compare a [op, op'] [b, c] pos) r (.bool (k && k')) := by
  obtain ⟨ta, pa, ka⟩ := ha
  obtain ⟨tb, pb, kb⟩ := hb
  obtain ⟨tc, pc, kc⟩ := hc
  obtain ⟨rr, po, ko⟩ := ho
  obtain ⟨rr', po', ko'⟩ := ho'
  refine ⟨_, pe_chain po po' pa pb pc hm, fun H σ S Q q => ka H σ S _ fun x H1 s1 r1 => kb H1 σ (S.mono s1) _ fun y H2 s2 r2 => ko H2 x y (r1.mono s2) r2 _ ⟨k, rfl, ?_⟩⟩
  cases k with
  | true => exact iteT (kc H2 σ (S.mono (s1.trans s2)) _ fun z H3 s3 r3 => ko' H3 y z (r2.mono s3) r3 _ (q _ H3 (s1.trans (s2.trans s3)) (.bl _)))
  | false => exact iteF (q _ H2 (s1.trans s2) (.bl _))

/-! tests -/
theorem etV {k : Bool} (h : EV X B e r (.bool k)) (he : ∀ whole, isTrue e X.env whole = (do let v ← whole; standAt e.pos; holding [v] (truthy v)) := by intro _; rfl) : ET X B e r k := by
  obtain ⟨te, p, kk⟩ := h
  exact ⟨_, pt_val p he, fun H σ S Q q => kk H σ S _ fun v H' s y => by cases y; exact ⟨k, rfl, q H' s⟩⟩
theorem etCmp {op : CmpOp} {k : Bool} (ha : EH X B a r dx) (hb : EH X B b r dy) (ho : CV X op dx dy k) (hm : behindInMarks op b = false := by first | exact nomark _ | rfl) : ET X B (.Compare a [op] [b] pos) r k := by
  obtain ⟨ta, pa, ka⟩ := ha
  obtain ⟨tb, pb, kb⟩ := hb
  obtain ⟨rr, po, ko⟩ := ho
  exact ⟨_, pt_cmpR po pa pb hm, fun H σ S Q q => ka H σ S _ fun x H1 s1 r1 => kb H1 σ (S.mono s1) _ fun y H2 s2 r2 =>
    ko H2 x y (r1.mono s2) r2 _ ⟨k, rfl, q H2 (s1.trans s2)⟩⟩
theorem etChain {op op' : CmpOp} {k k' : Bool} (ha : EH X B a r dx) (hb : EH X B b r dy) (hc : EH X B c r dz) (ho : CV X op dx dy k) (ho' : CV X op' dy dz k') (hm : lastMarks [op, op'] [b, c] = false := by with_unfolding_all rfl) :
    ET X B (.Compare a [op, op'] [b, c] pos) r (k && k') := by
  obtain ⟨ta, pa, ka⟩ := ha
  obtain ⟨tb, pb, kb⟩ := hb
  obtain ⟨tc, pc, kc⟩ := hc
  obtain ⟨rr, po, ko⟩ := ho
  obtain ⟨rr', po', ko'⟩ := ho'
  refine ⟨_, pt_chain po po' pa pb pc hm, fun H σ S Q q => ka H σ S _ fun x H1 s1 r1 => kb H1 σ (S.mono s1) _ fun y H2 s2 r2 => ko H2 x y (r1.mono s2) r2 _ ⟨k, rfl, ?_⟩⟩
  cases k with
  | true => exact iteT (kc H2 σ (S.mono (s1.trans s2)) _ fun z H3 s3 r3 => ko' H3 y z (r2.mono s3) r3 _ ⟨_, rfl, q H3 (s1.trans (s2.trans s3))⟩)
  | false => exact iteF ⟨_, rfl, q H2 (s1.trans s2)⟩
theorem EW.t {k : Bool} (h : EW X B e r k) : ET X B e r k := by
  obtain ⟨t, p, q⟩ := h
  exact ⟨t, p.pt, q⟩
theorem ewAnd1 {k : Bool} (h : ET X B a r k) : EW X B (.BoolOp .And [a] pos) r k := by
  obtain ⟨t, p, q⟩ := h
  exact ⟨t, pw_and1 p, q⟩
theorem ewOr1 {k : Bool} (h : ET X B a r k) : EW X B (.BoolOp .Or [a] pos) r k := by
  obtain ⟨t, p, q⟩ := h
  exact ⟨t, pw_or1 p, q⟩
theorem ewAnd {k k' : Bool} {rest : List Expr} (h : ET X B a r k) (h' : k = true → EW X B (.BoolOp .And (b :: rest) pos) r k') : EW X B (.BoolOp .And (a :: b :: rest) pos) r (k && k') := by
  obtain ⟨t, p, q⟩ := h
  cases k with
  | true =>
    obtain ⟨t', p', q'⟩ := h' rfl
    exact ⟨_, pw_and p p', fun H σ S Q g => q H σ S _ fun H1 s1 => iteT (q' H1 σ (S.mono s1) _ fun H2 s2 => g H2 (s1.trans s2))⟩
  | false =>
    exact ⟨_, pw_and p (PW_never), fun H σ S Q g => q H σ S _ fun H1 s1 => iteF (g H1 s1)⟩
where PW_never {b : Expr} {rest : List Expr} {pos : Pos} : PW X (.BoolOp .And (b :: rest) pos) (fun _ _ _ => False) := ⟨fun _ _ _ _ _ _ _ h => h.elim⟩
theorem ewOr {k k' : Bool} {rest : List Expr} (h : ET X B a r k) (h' : k = false → EW X B (.BoolOp .Or (b :: rest) pos) r k') : EW X B (.BoolOp .Or (a :: b :: rest) pos) r (k || k') := by
  obtain ⟨t, p, q⟩ := h
  cases k with
  | false =>
    obtain ⟨t', p', q'⟩ := h' rfl
    exact ⟨_, pw_or p p', fun H σ S Q g => q H σ S _ fun H1 s1 => iteF (q' H1 σ (S.mono s1) _ fun H2 s2 => g H2 (s1.trans s2))⟩
  | true =>
    exact ⟨_, pw_or p (PW_never), fun H σ S Q g => q H σ S _ fun H1 s1 => iteT (g H1 s1)⟩
where PW_never {b : Expr} {rest : List Expr} {pos : Pos} : PW X (.BoolOp .Or (b :: rest) pos) (fun _ _ _ => False) := ⟨fun _ _ _ _ _ _ _ h => h.elim⟩
theorem etNot {k : Bool} (h : ET X B a r k) : ET X B (.UnaryOp .Not a pos) r (!k) := by
  obtain ⟨t, p, q⟩ := h
  exact ⟨_, pt_not p, fun H σ S Q g => q H σ S _ fun H1 s1 => g H1 s1⟩
/-- and, or, not as values: bools, the last one any -/
theorem evOne {op : BoolOp} (h : EV X B a r d) : EV X B (.BoolOp op [a] pos) r d := by
  obtain ⟨t, p, q⟩ := h
  exact ⟨_, pe_one p, q⟩
theorem evAnd {k k' : Bool} {rest : List Expr} (h : EV X B a r (.bool k)) (h' : k = true → EV X B (.BoolOp .And (b :: rest) pos) r (.bool k')) : EV X B (.BoolOp .And (a :: b :: rest) pos) r (.bool (k && k')) := by
  obtain ⟨t, p, q⟩ := h
  cases k with
  | true =>
    obtain ⟨t', p', q'⟩ := h' rfl
    exact ⟨_, pe_and p p', fun H σ S Q g => q H σ S _ fun v H1 s1 y => by cases y; exact ⟨true, rfl, iteT (q' H1 σ (S.mono s1) _ fun v H2 s2 z => g v H2 (s1.trans s2) z)⟩⟩
  | false =>
    exact ⟨_, pe_and p (PE_never), fun H σ S Q g => q H σ S _ fun v H1 s1 y => by cases y; exact ⟨false, rfl, iteF (g _ H1 s1 (.bl _))⟩⟩
where PE_never {b : Expr} {rest : List Expr} {pos : Pos} : PE X (.BoolOp .And (b :: rest) pos) (fun _ _ _ => False) := ⟨fun _ _ _ _ _ _ h => h.elim⟩
theorem evOr {k k' : Bool} {rest : List Expr} (h : EV X B a r (.bool k)) (h' : k = false → EV X B (.BoolOp .Or (b :: rest) pos) r (.bool k')) : EV X B (.BoolOp .Or (a :: b :: rest) pos) r (.bool (k || k')) := by
  obtain ⟨t, p, q⟩ := h
  cases k with
  | false =>
    obtain ⟨t', p', q'⟩ := h' rfl
    exact ⟨_, pe_or p p', fun H σ S Q g => q H σ S _ fun v H1 s1 y => by cases y; exact ⟨false, rfl, iteF (q' H1 σ (S.mono s1) _ fun v H2 s2 z => g v H2 (s1.trans s2) z)⟩⟩
  | true =>
    exact ⟨_, pe_or p (PE_never), fun H σ S Q g => q H σ S _ fun v H1 s1 y => by cases y; exact ⟨true, rfl, iteT (g _ H1 s1 (.bl _))⟩⟩
where PE_never {b : Expr} {rest : List Expr} {pos : Pos} : PE X (.BoolOp .Or (b :: rest) pos) (fun _ _ _ => False) := ⟨fun _ _ _ _ _ _ h => h.elim⟩
theorem evAndF {rest : List Expr} (h : EV X B a r (.bool false)) : EV X B (.BoolOp .And (a :: b :: rest) pos) r (.bool false) := evAnd (k' := false) h fun z => nomatch z
theorem evOrT {rest : List Expr} (h : EV X B a r (.bool true)) : EV X B (.BoolOp .Or (a :: b :: rest) pos) r (.bool true) := evOr (k' := false) h fun z => nomatch z
theorem ewAndF {rest : List Expr} (h : ET X B a r false) : EW X B (.BoolOp .And (a :: b :: rest) pos) r false := ewAnd (k' := false) h fun z => nomatch z
theorem ewOrT {rest : List Expr} (h : ET X B a r true) : EW X B (.BoolOp .Or (a :: b :: rest) pos) r true := ewOr (k' := false) h fun z => nomatch z
theorem evNot {k : Bool} (h : EV X B a r (.bool k)) : EV X B (.UnaryOp .Not a pos) r (.bool (!k)) := by
  obtain ⟨t, p, q⟩ := h
  exact ⟨_, pe_not p, fun H σ S Q g => q H σ S _ fun v H1 s1 y => by cases y; exact ⟨k, rfl, g _ H1 s1 (.bl _)⟩⟩
theorem evIf {k : Bool} (h : ET X B c r k) (h1 : k = true → EV X B a r d) (h2 : k = false → EV X B b r d) : EV X B (.IfExp c a b pos) r d := by
  obtain ⟨t, p, q⟩ := h
  cases k with
  | true =>
    obtain ⟨t', p', q'⟩ := h1 rfl
    exact ⟨_, pe_ifExp p p' PE_never, fun H σ S Q g => q H σ S _ fun H1 s1 => iteT (q' H1 σ (S.mono s1) _ fun v H2 s2 z => g v H2 (s1.trans s2) z)⟩
  | false =>
    obtain ⟨t', p', q'⟩ := h2 rfl
    exact ⟨_, pe_ifExp p PE_never p', fun H σ S Q g => q H σ S _ fun H1 s1 => iteF (q' H1 σ (S.mono s1) _ fun v H2 s2 z => g v H2 (s1.trans s2) z)⟩
where PE_never {b : Expr} : PE X b (fun _ _ _ => False) := ⟨fun _ _ _ _ _ _ h => h.elim⟩
/-- truth of a list, of an int -/
theorem etL (h : ES X B e r tp ds) (he : ∀ whole, isTrue e X.env whole = (do let v ← whole; standAt e.pos; holding [v] (truthy v)) := by intro _; rfl) : ET X B e r (!ds.isEmpty) := by
  obtain ⟨t, p, q⟩ := h
  refine ⟨_, pt_truth p he, fun H σ S Q g => q H σ S _ fun a vs H1 s1 y z => ⟨!ds.isEmpty, ?_, g H1 s1⟩⟩
  have e : (!ds.isEmpty) = !vs.isEmpty := by cases z <;> rfl
  cases tp with
  | true => exact .inr (.inl ⟨vs, y, e⟩)
  | false => exact .inl ⟨vs, y, e⟩
theorem etI {i : Int} (h : EV X B e r (.int i)) (he : ∀ whole, isTrue e X.env whole = (do let v ← whole; standAt e.pos; holding [v] (truthy v)) := by intro _; rfl) : ET X B e r (i != 0) := by
  obtain ⟨t, p, q⟩ := h
  exact ⟨_, pt_truth p he, fun H σ S Q g => q H σ S _ fun v H1 s1 y => by cases y; exact ⟨_, rfl, g H1 s1⟩⟩

/-! arguments, displays -/
theorem eaN : EA X B [] r [] := ⟨_, pa_nil, fun H σ _ Q q => q [] H (Same.refl _) .nil⟩
theorem eaC (h : EV X B e r d) (hr : EA X B es r ds) (hs : starEach (e :: es) X.env = (false, eval e X.env) :: starEach es X.env := by rfl) : EA X B (e :: es) r (d :: ds) := by
  obtain ⟨t, p, q⟩ := h
  obtain ⟨t', p', q'⟩ := hr
  exact ⟨_, pa_cons p p' hs, fun H σ S Q g => q H σ S _ fun v H1 s1 y => q' H1 σ (S.mono s1) _ fun vs H2 s2 z => g _ H2 (s1.trans s2) (.cons (y.mono (hide_mono s2)) z)⟩
theorem line_of {n : Nat} (h : n ≤ 100000) : n ≤ sizeLine := Nat.le_trans h (by decide)
theorem evTup {k} (h : EA X B es r ds) (hl : ds.length ≤ 100000 := by first | decide | simp) : EV X B (.Tuple es k pos) r (.tuple ds) := by
  obtain ⟨t, p, q⟩ := h
  refine ⟨_, pe_tup p, fun H σ S Q g => q H σ S _ fun vs H1 s1 y => ⟨by rw [y.len]; exact line_of hl, fun l hl => ?_⟩⟩
  exact g _ _ (s1.trans (same_new hl)) (.tup (SqT.of (hide_new hl (S.mono s1).dom)) (y.mono (hide_mono (same_new hl))))
theorem evLst (h : EA X B es r ds) (hl : ds.length ≤ 100000 := by first | decide | simp) : EV X B (.List es pos) r (.list ds) := by
  obtain ⟨t, p, q⟩ := h
  refine ⟨_, pe_lst p, fun H σ S Q g => q H σ S _ fun vs H1 s1 y => ⟨by rw [y.len]; exact line_of hl, fun l hl => ?_⟩⟩
  exact g _ _ (s1.trans (same_new hl)) (.lst (SqL.of (hide_new hl (S.mono s1).dom)) (y.mono (hide_mono (same_new hl))))
theorem enLst (h : EA X B es r ds) (hl : ds.length ≤ 100000 := by first | decide | simp) : EN X B (.List es pos) r (fun p => .ol p ds) := by
  obtain ⟨t, p, q⟩ := h
  exact ⟨_, pe_lst p, fun H σ S Q g => q H σ S _ fun vs H1 s1 y => ⟨by rw [y.len]; exact line_of hl, fun l hl => g l _ H1 s1 hl rfl ⟨rfl, vs, upd_same, y⟩⟩⟩
theorem enDct : EN X B (.Dict [] [] pos) r (fun p => .od p []) :=
  ⟨_, pe_dnewK, fun H σ S Q g => fun l hl => g l _ H (Same.refl _) hl rfl ⟨rfl, [], upd_same, .nil⟩⟩

/-! items -/
theorem evIx {i : Int} (ha : ES X B a r tp ds) (hb : EV X B b r (.int i)) (hi : atI ds i = some d) (hs : PlainIx b := by exact fun _ _ => rfl) : EV X B (.Subscript a b pos) r d := by
  obtain ⟨ta, pa, ka⟩ := ha
  obtain ⟨tb, pb, kb⟩ := hb
  have at_ : ∀ {H : Hp} {vs : List V}, RpA X.K H vs ds → ∃ v, atI vs i = some v ∧ Rp X.K H v d := fun {H vs} ra => by
    unfold atI at hi ⊢
    rw [ra.len]
    cases e : ixN ds.length i with
    | none => rw [e] at hi; cases hi
    | some j =>
      rw [e] at hi
      obtain ⟨v, h1, h2⟩ := ra.get (i := j) hi
      exact ⟨v, h1, h2⟩
  cases tp with
  | true =>
    exact ⟨_, pe_ix ix_tup pa pb hs, fun H σ S Q q => ka H σ S _ fun l vs H1 s1 y z => kb H1 σ (S.mono s1) _ fun w H2 s2 u => by
      cases u
      obtain ⟨v, h1, h2⟩ := at_ (z.mono (hide_mono s2))
      exact ⟨_, _, _, _, rfl, rfl, Tp.seqT s2 y, h1, q v H2 (s1.trans s2) h2⟩⟩
  | false =>
    exact ⟨_, pe_ix ix_list pa pb hs, fun H σ S Q q => ka H σ S _ fun l vs H1 s1 y z => kb H1 σ (S.mono s1) _ fun w H2 s2 u => by
      cases u
      obtain ⟨v, h1, h2⟩ := at_ (z.mono (hide_mono s2))
      exact ⟨_, _, _, _, rfl, rfl, s2.seq y, h1, q v H2 (s1.trans s2) h2⟩⟩
theorem atI_D {ds : List D} {i : Int} (h0 : 0 ≤ i) (h1 : i < ds.length) : atI ds i = some (ds.getD i.toNat .none) := by
  unfold atI ixN
  rw [if_pos h0, if_pos h1]
  show ds[i.toNat]? = _
  rw [List.getD_eq_getElem?_getD, List.getElem?_eq_getElem (by omega)]
  rfl
theorem atI_of {ds : List D} {i : Int} (h0 : 0 ≤ i) (h : ds[i.toNat]? = some d) : atI ds i = some d := by
  have e : i = ((i.toNat : Nat) : Int) := by omega
  rw [e]
  exact atI_nat h

/-! calls of what is built in -/
/-- no star -/
def NSt (X : Cx) (e : Expr) : Prop := ∀ es, starEach (e :: es) X.env = (false, eval e X.env) :: starEach es X.env
theorem evLen {p : Pos} (h : ES X B e r tp ds) (hm : X.mg "len" = none) (hg : Gl X "len" := by rfl) (hst : NSt X e := by exact fun _ => rfl) : EV X B (.Call (.Name "len" p) [e] [] pos) r (.int ds.length) := by
  obtain ⟨t, pp, q⟩ := h
  exact ⟨_, pe_callB call_len_seq hg hm PySem.boot_len (pa_cons pp pa_nil (hst _)) (he := hst _), fun H σ S Q g => q H σ S _ fun a vs H1 s1 y z => ⟨a, vs, rfl, seqO y, by rw [z.len]; exact g _ H1 s1 (.int _)⟩⟩
theorem evInt {i : Int} {p : Pos} (h : EV X B e r (.int i)) (hm : X.mg "int" = none) (hg : Gl X "int" := by rfl) (hst : NSt X e := by exact fun _ => rfl) : EV X B (.Call (.Name "int" p) [e] [] pos) r (.int i) := by
  obtain ⟨t, pp, q⟩ := h
  exact ⟨_, pe_callTy call_int1 hg hm (by decide +kernel) (pa_cons pp pa_nil (hst _)) (he := hst _), fun H σ S Q g => q H σ S _ fun v H1 s1 y => by cases y; exact .inl ⟨_, rfl, g _ H1 s1 (.int _)⟩⟩
theorem evIntB {i : Bool} {p : Pos} (h : EV X B e r (.bool i)) (hm : X.mg "int" = none) (hg : Gl X "int" := by rfl) (hst : NSt X e := by exact fun _ => rfl) : EV X B (.Call (.Name "int" p) [e] [] pos) r (.int (if i then 1 else 0)) := by
  obtain ⟨t, pp, q⟩ := h
  exact ⟨_, pe_callTy call_int1 hg hm (by decide +kernel) (pa_cons pp pa_nil (hst _)) (he := hst _), fun H σ S Q g => q H σ S _ fun v H1 s1 y => by cases y; exact .inr ⟨_, rfl, g _ H1 s1 (.int _)⟩⟩
theorem evMax {i j : Int} {p : Pos} (ha : EV X B a r (.int i)) (hb : EV X B b r (.int j)) (hc : X.calm = true) (hm : X.mg "max" = none) (hg : Gl X "max" := by rfl) (hst : NSt X a := by exact fun _ => rfl) (hst2 : NSt X b := by exact fun _ => rfl) : EV X B (.Call (.Name "max" p) [a, b] [] pos) r (.int (if j > i then j else i)) := by
  obtain ⟨t, pp, q⟩ := ha
  obtain ⟨t', pp', q'⟩ := hb
  exact ⟨_, pe_callB (call_max2 hc) hg hm (by decide +kernel) (pa_cons pp (pa_cons pp' pa_nil (hst2 _)) (hst _)) (he := hst _) (hpl := by rw [hst2]; rfl), fun H σ S Q g => q H σ S _ fun v H1 s1 y => q' H1 σ (S.mono s1) _ fun v' H2 s2 y' => by cases y; cases y'; exact ⟨_, _, rfl, g _ H2 (s1.trans s2) (.int _)⟩⟩
theorem evMin {i j : Int} {p : Pos} (ha : EV X B a r (.int i)) (hb : EV X B b r (.int j)) (hc : X.calm = true) (hm : X.mg "min" = none) (hg : Gl X "min" := by rfl) (hst : NSt X a := by exact fun _ => rfl) (hst2 : NSt X b := by exact fun _ => rfl) : EV X B (.Call (.Name "min" p) [a, b] [] pos) r (.int (if j < i then j else i)) := by
  obtain ⟨t, pp, q⟩ := ha
  obtain ⟨t', pp', q'⟩ := hb
  exact ⟨_, pe_callB (call_min2 hc) hg hm (by decide +kernel) (pa_cons pp (pa_cons pp' pa_nil (hst2 _)) (hst _)) (he := hst _) (hpl := by rw [hst2]; rfl), fun H σ S Q g => q H σ S _ fun v H1 s1 y => q' H1 σ (S.mono s1) _ fun v' H2 s2 y' => by cases y; cases y'; exact ⟨_, _, rfl, g _ H2 (s1.trans s2) (.int _)⟩⟩
theorem evAbs {i : Int} {p : Pos} (ha : EV X B a r (.int i)) (hm : X.mg "abs" = none) (hg : Gl X "abs" := by rfl) (hst : NSt X a := by exact fun _ => rfl) : EV X B (.Call (.Name "abs" p) [a] [] pos) r (.int (if i < 0 then -i else i)) := by
  obtain ⟨t, pp, q⟩ := ha
  exact ⟨_, pe_callB call_abs hg hm (by decide +kernel) (pa_cons pp pa_nil (hst _)) (he := hst _), fun H σ S Q g => q H σ S _ fun v H1 s1 y => by cases y; exact ⟨_, rfl, g _ H1 s1 (.int _)⟩⟩
theorem evList {p : Pos} (h : ES X B e r tp ds) (hm : X.mg "list" = none) (hg : Gl X "list" := by rfl) (hst : NSt X e := by exact fun _ => rfl) : EV X B (.Call (.Name "list" p) [e] [] pos) r (.list ds) := by
  obtain ⟨t, pp, q⟩ := h
  exact ⟨_, pe_callTy call_list_of hg hm (by decide +kernel) (pa_cons pp pa_nil (hst _)) (he := hst _), fun H σ S Q g => q H σ S _ fun a vs H1 s1 y z => ⟨a, vs, rfl, seqO y, fun l hl =>
    g _ _ (s1.trans (same_new hl)) (.lst (SqL.of (hide_new hl (S.mono s1).dom)) (z.mono (hide_mono (same_new hl))))⟩⟩
theorem enList {p : Pos} (h : ES X B e r tp ds) (hm : X.mg "list" = none) (hg : Gl X "list" := by rfl) (hst : NSt X e := by exact fun _ => rfl) : EN X B (.Call (.Name "list" p) [e] [] pos) r (fun p => .ol p ds) := by
  obtain ⟨t, pp, q⟩ := h
  exact ⟨_, pe_callTy call_list_of hg hm (by decide +kernel) (pa_cons pp pa_nil (hst _)) (he := hst _), fun H σ S Q g => q H σ S _ fun a vs H1 s1 y z => ⟨a, vs, rfl, seqO y, fun l hl => g l _ H1 s1 hl rfl ⟨rfl, vs, upd_same, z⟩⟩⟩
theorem evTuple {p : Pos} (h : ES X B e r false ds) (hm : X.mg "tuple" = none) (hg : Gl X "tuple" := by rfl) (hst : NSt X e := by exact fun _ => rfl) : EV X B (.Call (.Name "tuple" p) [e] [] pos) r (.tuple ds) := by
  obtain ⟨t, pp, q⟩ := h
  exact ⟨_, pe_callTy call_tuple_of hg hm (by decide +kernel) (pa_cons pp pa_nil (hst _)) (he := hst _), fun H σ S Q g => q H σ S _ fun a vs H1 s1 y z => ⟨a, vs, rfl, .inl ⟨y, fun l hl =>
    g _ _ (s1.trans (same_new hl)) (.tup (SqT.of (hide_new hl (S.mono s1).dom)) (z.mono (hide_mono (same_new hl))))⟩⟩⟩
def tyN : D → String
  | .none => "NoneType"
  | .bool _ => "bool"
  | .int _ => "int"
  | .str _ => "str"
  | .list _ => "list"
  | .tuple _ => "tuple"
  | .dict _ => "dict"
theorem Rp.ty {K : PySem.W.Frag} {H : Hp} {v : V} (h : Rp K H v d) : TyX K H v (.type (tyN d)) := by
  cases h with
  | non => exact .base .non
  | bl b => exact .base (.bl b)
  | int i => exact .base (.int i)
  | str x => exact .base (.str x)
  | lst h a =>
    rcases h with (h | ⟨o, h⟩) | ⟨o, its, n, h, hc, _⟩
    · exact .base (.lst h)
    · exact .base (.frz h)
    · exact .kList h hc
  | tup h a =>
    rcases h with (h | ⟨o, h⟩) | ⟨o, its, n, h, hc, _⟩
    · exact .base (.tup h)
    · exact .fTuple h
    · exact .kTuple h hc
  | dct h a => exact .base (.dK h)
  | tab h => exact .base (.dT h)
/-- isinstance(e, T), T a built-in class -/
theorem evIsi {x : Str} (Ts : String) (k : Bool) {s : String} {p p' : Pos} (h : EH X B e r d) (hm : X.mg "isinstance" = none) (hmT : X.mg x = none) (hs : tyN d = s := by first | (show _ = "int"; rfl) | (show _ = "bool"; rfl) | (show _ = "tuple"; rfl) | (show _ = "list"; rfl) | (show _ = "NoneType"; rfl) | (show _ = "str"; rfl) | (show _ = "dict"; rfl)) (hk : kitB s Ts = some k := by decide +kernel) (hT : bootBuiltins x = some (.type Ts) := by decide +kernel)
    (hg : Gl X "isinstance" := by rfl) (hgT : Gl X x := by rfl) (hn : x ≠ "__name__" := by decide) (hd : (x == ("__debug__" : Str)) = false := by decide) (hst : NSt X e := by exact fun _ => rfl) (hst2 : NSt X (.Name x p') := by exact fun _ => rfl) : EV X B (.Call (.Name "isinstance" p) [e, .Name x p'] [] pos) r (.bool k) := by
  obtain ⟨t, pp, q⟩ := h
  exact ⟨_, pe_callB call_isi hg hm (by decide +kernel) (pa_cons pp (pa_cons (pe_bltn (v := .ty Ts) hgT hmT hT rfl hn hd) pa_nil (hst2 _)) (hst _)) (he := hst _) (hpl := by rw [hst2]; rfl), fun H σ S Q g => q H σ S _ fun v H1 s1 y => ⟨v, .ty Ts, _, _, k, rfl, .ty Ts, y.ty, kit_ty (hs ▸ hk), g _ H1 s1 (.bl k)⟩⟩
end
end Tp

namespace Tp
open PySem L2

/-! ### statements -/
/-- what a def hands back: data, or a new list or dict -/
inductive Rs where
  | da (d : D)
  | nl (ds : List D)
  | nd (kvs : List (Key × D))
  | rf (a : Addr)
def RsOk (K : PySem.W.Frag) (B : Bx) (H : Hp) (v : V) : Rs → Prop
  | .da d => Rp K (hide H B.ps) v d
  | .nl ds => ∃ p vs, v = .ref p ∧ B.H0 p = none ∧ H p = some (.lst vs) ∧ RpA K (hide H (p :: B.ps)) vs ds
  | .nd kvs => ∃ p us, v = .ref p ∧ B.H0 p = none ∧ H p = some (.dK us) ∧ RpK K (hide H (p :: B.ps)) us kvs
  | .rf a => v = .ref a
theorem RsOk.sub {K : PySem.W.Frag} {H0 H : Hp} {ps qs : List Addr} {v : V} {s : Rs} (h : ∀ p ∈ qs, p ∈ ps) (x : RsOk K ⟨H0, ps, [], []⟩ H v s) : RsOk K ⟨H0, qs, [], []⟩ H v s := by
  have c : ∀ {l : Addr}, ∀ p ∈ l :: qs, p ∈ l :: ps := fun p hp => (List.mem_cons.mp hp).elim (fun z => z ▸ List.mem_cons_self) fun z => List.mem_cons_of_mem _ (h p z)
  cases s with
  | da d => exact Rp.mono (hide_sub h) x
  | nl ds => obtain ⟨p, vs, e1, e2, e3, e4⟩ := x; exact ⟨p, vs, e1, e2, e3, e4.mono (hide_sub c)⟩
  | nd ds => obtain ⟨p, vs, e1, e2, e3, e4⟩ := x; exact ⟨p, vs, e1, e2, e3, e4.mono (hide_sub c)⟩
  | rf a => exact x
structure Po where
  nx : List Sl → Prop
  rt : Rs → List Sl → Prop
  bk : List Sl → Prop := fun _ => False
  ct : List Sl → Prop := fun _ => False
  ex : Addr → List Sl → Prop := fun _ _ => False
structure Kt (X : Cx) (B : Bx) (W : WX) (P : Po) (E : Ends) : Prop where
  nx : ∀ r σ H, SOk X.K B r H σ → P.nx r → E.nx σ H
  rt : ∀ q v r σ H, SOk X.K B r H σ → RsOk X.K ⟨B.H0, own r ++ B.ps, [], []⟩ H v q → P.rt q r → E.rt v H
  bk : ∀ r σ H, SOk X.K B r H σ → P.bk r → E.bk σ H
  ct : ∀ r σ H, SOk X.K B r H σ → P.ct r → E.ct σ H
  ex : ∀ C r σ H, SOk X.K B r H σ → P.ex C r → W (.ref C) none σ H
/-- the widest readings -/
def wS (X : Cx) (sts : List Stmt) : TS := fun E σ H => ∃ t, PSs X sts t ∧ t E σ H
theorem wS_ok {X : Cx} {sts : List Stmt} : PSs X sts (wS X sts) := ⟨fun pins s σ H E I ⟨_, p, h⟩ => p.run pins s σ H E I h⟩
def wE (X : Cx) (e : Expr) : TE := fun σ H Q => ∃ t, PE X e t ∧ t σ H Q
theorem wE_ok {X : Cx} {e : Expr} : PE X e (wE X e) := ⟨fun pins s σ H Q I ⟨_, p, h⟩ => p.run pins s σ H Q I h⟩
def wT (X : Cx) (e : Expr) : TT := fun σ H Q => ∃ t, PT X e t ∧ t σ H Q
theorem wT_ok {X : Cx} {e : Expr} : PT X e (wT X e) := ⟨fun pins s σ H Q I ⟨_, p, h⟩ => p.run pins s σ H Q I h⟩
/-- the statements lead from r to what P says -/
def SV (X : Cx) (B : Bx) (W : WX) (sts : List Stmt) (r : List Sl) (P : Po) : Prop := ∀ H σ E, SOk X.K B r H σ → Kt X B W P E → wS X sts E σ H
/-- what the rules ask of the context -/
structure Go (X : Cx) (W : WX) (k : Nat) : Prop where
  hr : Room k X.A
  calm : X.calm = true
  po : PassesOwn (model X.prog X.w) X.A X.env X.xe
  tk : Takes X W
  nd : X.N.Nodup
def Po.then (P : Po) (nx : List Sl → Prop) : Po := { P with nx := nx }
def Po.loop (P : Po) (nx bk : List Sl → Prop) : Po := { P with nx := nx, ct := nx, bk := bk }

section
variable {X : Cx} {B : Bx} {W : WX} {P : Po} {r : List Sl} {e a b c : Expr} {es : List Expr} {rest body orelse : List Stmt} {st : Stmt} {d : D} {ds : List D} {pos pos' : Pos} {k kk : Nat}
theorem sv_nil (h : P.nx r) : SV X B W [] r P := fun H σ E S kt => ⟨_, pss_nil, kt.nx r σ H S h⟩
theorem SV.weak {q : List Sl} (w : Wk r q) (h : SV X B W rest q P) : SV X B W rest r P := fun H σ E S kt => h H σ E (S.weak w) kt
theorem Kt.then {E : Ends} {t : TS} {R : List Sl → Prop} (kt : Kt X B W P E) (h : ∀ r σ H, SOk X.K B r H σ → R r → t E σ H) : Kt X B W (P.then R) { E with nx := t E } := ⟨h, kt.rt, kt.bk, kt.ct, kt.ex⟩
theorem pin_rt {K : PySem.W.Frag} {H : Hp} {σ : St} {v : V} (S : SOk K B r H σ) (h : Rp K (hid B r H) v d) : RsOk K ⟨B.H0, own r ++ B.ps, [], []⟩ H v (.da d) := h

theorem sv_pass (h : SV X B W rest r P) : SV X B W (.Pass pos :: rest) r P := fun H σ E S kt => ⟨_, pss_cons ps_pass wS_ok, h H σ E S kt⟩
theorem sv_asg (i : Nat) {x : Str} (g : Go X W k) (he : EV X B e r d) (h : SV X B W rest (r.set i (.im d)) P) (hi : X.N[i]? = some x := by rfl) (hx : Loc X.env.scope x := by first | exact Or.inl rfl | exact Or.inr rfl)
    (hs : swapsWith e (some (.Name x pos')) pos.line X.env = pure false := by rfl) (hf : X.fn x = true ∨ X.env.scope.names.lookup x = some .local := by first | exact .inl rfl | exact .inr rfl) : SV X B W (.Assign [.Name x pos'] e pos :: rest) r P := fun H σ E S kt => by
  obtain ⟨te, p, q⟩ := he
  exact ⟨_, pss_cons (ps_set g.nd hi hx p hs hf) wS_ok, q H σ S _ fun v H1 s1 y => h H1 _ E ((S.mono s1).im y) kt⟩
/-- a new list, a new dict: owned -/
theorem sv_new (i : Nat) {x : Str} {s : Addr → Sl} (g : Go X W k) (he : EN X B e r s) (h : ∀ p, SV X B W rest (r.set i (s p)) P) (hi : X.N[i]? = some x := by rfl) (hx : Loc X.env.scope x := by first | exact Or.inl rfl | exact Or.inr rfl)
    (hs : swapsWith e (some (.Name x pos')) pos.line X.env = pure false := by rfl) (hf : X.fn x = true ∨ X.env.scope.names.lookup x = some .local := by first | exact .inl rfl | exact .inr rfl) : SV X B W (.Assign [.Name x pos'] e pos :: rest) r P := fun H σ E S kt => by
  obtain ⟨te, p, q⟩ := he
  exact ⟨_, pss_cons (ps_set g.nd hi hx p hs hf) wS_ok, q H σ S _ fun l o H1 s1 hl ho hv => h l _ _ E ((S.mono s1).put ho hl hv) kt⟩
theorem sv_drop (he : EV X B e r d) (h : SV X B W rest r P) (hs : swapsWith e none pos.line X.env = pure false := by rfl) : SV X B W (.Expr e pos :: rest) r P := fun H σ E S kt => by
  obtain ⟨te, p, q⟩ := he
  exact ⟨_, pss_cons (ps_expr p hs) wS_ok, q H σ S _ fun v H1 s1 y => h H1 σ E (S.mono s1) kt⟩
theorem sv_ret (he : EV X B e r d) (h : P.rt (.da d) r) : SV X B W (.Return (some e) pos :: rest) r P := fun H σ E S kt => by
  obtain ⟨te, p, q⟩ := he
  exact ⟨_, pss_cons (ps_ret p) wS_ok, q H σ S _ fun v H1 s1 y => kt.rt _ v r σ H1 (S.mono s1) (pin_rt (S.mono s1) y) h⟩
theorem sv_retN (h : P.rt (.da .none) r) : SV X B W (.Return none pos :: rest) r P := fun H σ E S kt => ⟨_, pss_cons ps_retN wS_ok, kt.rt (.da .none) .non r σ H S (show Rp X.K _ V.non .none from .non) h⟩
/-- an owned list is handed back -/
theorem sv_retO (i : Nat) {x : Str} {p : Addr} (hr : r[i]? = some (.ol p ds)) (h : P.rt (.nl ds) r) (hN : X.N[i]? = some x := by rfl) (hv : Vis X.env.scope x := by first | exact Or.inl rfl | exact Or.inr (Or.inl rfl) | exact Or.inr (Or.inr rfl)) (hd : (x == ("__debug__" : Str)) = false := by decide)
    (hcd : (x == ("__classdict__" : Str)) = false := by decide) : SV X B W (.Return (some (.Name x pos')) pos :: rest) r P := fun H σ E S kt => by
  obtain ⟨e, vs, y, z⟩ := S.sl i _ hr
  refine ⟨_, pss_cons (ps_ret (pe_var hN hv hd hcd)) wS_ok, _, e, kt.rt (.nl ds) _ r σ H S ⟨p, vs, rfl, S.new p (mem_own hr (List.mem_singleton.mpr rfl)), y, z.mono (hide_sub fun q hq => ?_)⟩ h⟩
  rcases List.mem_cons.mp hq with rfl | hq
  · exact List.mem_append_left _ (mem_own hr (List.mem_singleton.mpr rfl))
  · exact hq
theorem sv_retK (i : Nat) {x : Str} {p : Addr} {kvs : List (Key × D)} (hr : r[i]? = some (.od p kvs)) (h : P.rt (.nd kvs) r) (hN : X.N[i]? = some x := by rfl) (hv : Vis X.env.scope x := by first | exact Or.inl rfl | exact Or.inr (Or.inl rfl) | exact Or.inr (Or.inr rfl)) (hd : (x == ("__debug__" : Str)) = false := by decide)
    (hcd : (x == ("__classdict__" : Str)) = false := by decide) : SV X B W (.Return (some (.Name x pos')) pos :: rest) r P := fun H σ E S kt => by
  obtain ⟨e, vs, y, z⟩ := S.sl i _ hr
  refine ⟨_, pss_cons (ps_ret (pe_var hN hv hd hcd)) wS_ok, _, e, kt.rt (.nd kvs) _ r σ H S ⟨p, vs, rfl, S.new p (mem_own hr (List.mem_singleton.mpr rfl)), y, z.mono (hide_sub fun q hq => ?_)⟩ h⟩
  rcases List.mem_cons.mp hq with rfl | hq
  · exact List.mem_append_left _ (mem_own hr (List.mem_singleton.mpr rfl))
  · exact hq
/-- if: each way goes on by itself -/
theorem sv_if {k : Bool} (hc : ET X B c r k) (h1 : k = true → SV X B W body r (P.then fun r' => SV X B W rest r' P)) (h2 : k = false → SV X B W orelse r (P.then fun r' => SV X B W rest r' P)) : SV X B W (.If c body orelse pos :: rest) r P := fun H σ E S kt => by
  obtain ⟨t, p, q⟩ := hc
  refine ⟨_, pss_cons (ps_if p wS_ok wS_ok) wS_ok, q H σ S _ fun H1 s1 => ?_⟩
  have kt' : Kt X B W (P.then fun r' => SV X B W rest r' P) { E with nx := wS X rest E } := kt.then (t := wS X rest) fun r' σ' H' S' hR => hR H' σ' E S' kt
  cases k with
  | true => exact iteT (h1 rfl H1 σ _ (S.mono s1) kt')
  | false => exact iteF (h2 rfl H1 σ _ (S.mono s1) kt')
/-- the ways meet -/
theorem sv_ifR {k : Bool} (R : List Sl → Prop) (hc : ET X B c r k) (h1 : k = true → SV X B W body r (P.then R)) (h2 : k = false → SV X B W orelse r (P.then R)) (h : ∀ r', R r' → SV X B W rest r' P) : SV X B W (.If c body orelse pos :: rest) r P := fun H σ E S kt => by
  obtain ⟨t, p, q⟩ := hc
  refine ⟨_, pss_cons (ps_if p wS_ok wS_ok) wS_ok, q H σ S _ fun H1 s1 => ?_⟩
  have kt' : Kt X B W (P.then R) { E with nx := wS X rest E } := kt.then (t := wS X rest) fun r' σ' H' S' hR => h r' hR H' σ' E S' kt
  cases k with
  | true => exact iteT (h1 rfl H1 σ _ (S.mono s1) kt')
  | false => exact iteF (h2 rfl H1 σ _ (S.mono s1) kt')
/-- no else, and the body does not come to its end -/
theorem sv_ifX {k : Bool} (hc : ET X B c r k) (h1 : k = true → SV X B W body r (P.then fun _ => False)) (h : k = false → SV X B W rest r P) : SV X B W (.If c body [] pos :: rest) r P := fun H σ E S kt => by
  obtain ⟨t, p, q⟩ := hc
  refine ⟨_, pss_cons (ps_if p wS_ok pss_nil) wS_ok, q H σ S _ fun H1 s1 => ?_⟩
  cases k with
  | true => exact iteT (h1 rfl H1 σ _ (S.mono s1) (kt.then (t := wS X rest) fun _ _ _ _ z => z.elim))
  | false => exact iteF (h rfl H1 σ E (S.mono s1) kt)
/-- if c: x = e -/
theorem sv_ifI (i : Nat) {x : Str} {k : Bool} {i0 i1 : Int} {px : Pos} (g : Go X W kk) (hc : ET X B c r k) (h0 : r[i]? = some (.im (.int i0))) (he : k = true → EV X B e r (.int i1)) (h : SV X B W rest (r.set i (.im (.int (if k = true then i1 else i0)))) P) (hi : X.N[i]? = some x := by rfl) (hx : Loc X.env.scope x := by first | exact Or.inl rfl | exact Or.inr rfl)
    (hs : swapsWith e (some (.Name x pos')) px.line X.env = pure false := by rfl) (hf : X.fn x = true ∨ X.env.scope.names.lookup x = some .local := by first | exact .inl rfl | exact .inr rfl) : SV X B W (.If c [.Assign [.Name x pos'] e px] [] pos :: rest) r P := by
  refine sv_if hc (fun hk => ?_) fun hk => ?_
  · subst hk
    exact sv_asg i g (he rfl) (sv_nil h) hi hx hs hf
  · subst hk
    refine sv_nil ?_
    have e : r.set i (.im (.int (if false = true then i1 else i0))) = r := by
      rw [if_neg Bool.false_ne_true]
      exact List.set_getElem?_self h0
    rw [e] at h
    exact h
where
  List.set_getElem?_self {α : Type} : ∀ {l : List α} {i : Nat} {a : α}, l[i]? = some a → l.set i a = l
    | [], _, _, h => by simp at h
    | x :: l, 0, a, h => by simp at h; subst h; rfl
    | x :: l, i + 1, a, h => congrArg (x :: ·) (List.set_getElem?_self (i := i) (by simpa using h))
/-- x op= e, ints -/
theorem sv_augA (i : Nat) {x : Str} {a b : Int} (g : Go X W k) (h0 : r[i]? = some (.im (.int a))) (he : EV X B e r (.int b)) (h : SV X B W rest (r.set i (.im (.int (a + b)))) P) (hi : X.N[i]? = some x := by rfl) (hx : Loc X.env.scope x := by first | exact Or.inl rfl | exact Or.inr rfl)
    (hf : X.fn x = true ∨ X.env.scope.names.lookup x = some .local := by first | exact .inl rfl | exact .inr rfl) : SV X B W (.AugAssign (.Name x pos') .Add e pos :: rest) r P := fun H σ E S kt => by
  obtain ⟨te, p, q⟩ := he
  obtain ⟨v, e1, y⟩ := S.sl i _ h0
  cases y
  exact ⟨_, pss_cons (ps_aug g.nd hi hx p ip_add hf) wS_ok, _, e1, q H σ S _ fun v H1 s1 y => by cases y; exact ⟨a, b, rfl, rfl, h H1 _ E ((S.mono s1).im (.int _)) kt⟩⟩
theorem sv_augS (i : Nat) {x : Str} {a b : Int} (g : Go X W k) (h0 : r[i]? = some (.im (.int a))) (he : EV X B e r (.int b)) (h : SV X B W rest (r.set i (.im (.int (a - b)))) P) (hi : X.N[i]? = some x := by rfl) (hx : Loc X.env.scope x := by first | exact Or.inl rfl | exact Or.inr rfl)
    (hf : X.fn x = true ∨ X.env.scope.names.lookup x = some .local := by first | exact .inl rfl | exact .inr rfl) : SV X B W (.AugAssign (.Name x pos') .Sub e pos :: rest) r P := fun H σ E S kt => by
  obtain ⟨te, p, q⟩ := he
  obtain ⟨v, e1, y⟩ := S.sl i _ h0
  cases y
  exact ⟨_, pss_cons (ps_aug g.nd hi hx p ip_sub hf) wS_ok, _, e1, q H σ S _ fun v H1 s1 y => by cases y; exact ⟨a, b, rfl, rfl, h H1 _ E ((S.mono s1).im (.int _)) kt⟩⟩
/-- xs.append(e), xs owned -/
theorem sv_app (i : Nat) {x : Str} {p : Addr} {pc cp : Pos} (hr : r[i]? = some (.ol p ds)) (he : EV X B e r d) (hl : ds.length < 100000) (h : SV X B W rest (r.set i (.ol p (ds ++ [d]))) P) (hN : X.N[i]? = some x := by rfl) (hv : Vis X.env.scope x := by first | exact Or.inl rfl | exact Or.inr (Or.inl rfl) | exact Or.inr (Or.inr rfl)) (hd : (x == ("__debug__" : Str)) = false := by decide)
    (hcd : (x == ("__classdict__" : Str)) = false := by decide) (hs : swapsWith (.Call (.Attribute (.Name x pos') "append" pc) [e] [] cp) none pos.line X.env = pure false := by rfl) (hline : (pc.endLine == cp.line) = true := by rfl) (hst : NSt X e := by exact fun _ => rfl) :
    SV X B W (.Expr (.Call (.Attribute (.Name x pos') "append" pc) [e] [] cp) pos :: rest) r P := fun H σ E S kt => by
  obtain ⟨te, pp, q⟩ := he
  obtain ⟨e1, vs, y, z⟩ := S.sl i _ hr
  refine ⟨_, pss_cons (ps_expr (pe_bm PySem.F.plainAttrs_list PySem.F.slot_list_append PySem.F.type_list_append mt_append (pe_var hN hv hd hcd) (pa_cons pp pa_nil (hst _)) (hbase := by rfl) (hfew := by rw [hst]; rfl) (hline := hline) (hs := hst _) (hplain := by rfl)) hs) wS_ok, _, e1, .inl ⟨rfl, _, SqL.of y⟩, q H σ S _ fun v H1 s1 u => ?_⟩
  have y1 : H1 p = some (.lst vs) := s1.k y
  refine ⟨p, vs, v, rfl, rfl, y1, Nat.lt_of_lt_of_le (by rw [z.len]; exact hl) (by decide : 100000 ≤ sizeLine), ?_⟩
  exact h _ _ E ((S.mono s1).turn hr rfl rfl ⟨e1, _, upd_same, (z.mono (hide_mono s1)).app (.one u)⟩) kt
end
end Tp

namespace Tp
open PySem L2

/-! ### targets, loops -/
section
variable {X : Cx} {B : Bx} {W : WX} {P : Po} {r q : List Sl} {e a b c tg : Expr} {es : List Expr} {rest body orelse : List Stmt} {st : Stmt} {d : D} {ds : List D} {pos pos' : Pos} {k kk : Nat}
def GT (X : Cx) (B : Bx) (tg : Expr) (r : List Sl) (d : D) (q : List Sl) : Prop :=
  ∃ g, PG X tg g ∧ ∀ H σ v, SOk X.K B r H σ → Rp X.K (hid B r H) v d → ∀ Q : St → Hp → Prop, (∀ σ', SOk X.K B q H σ' → Q σ' H) → g v σ H Q
def GTs (X : Cx) (B : Bx) (tgs : List Expr) (r : List Sl) (ds : List D) (q : List Sl) : Prop :=
  ∃ g, PGs X tgs g ∧ ∀ H σ vs, SOk X.K B r H σ → RpA X.K (hid B r H) vs ds → ∀ Q : St → Hp → Prop, (∀ σ', SOk X.K B q H σ' → Q σ' H) → g vs σ H Q
theorem gt_name (i : Nat) {x : Str} (hN : X.N.Nodup) (hi : X.N[i]? = some x := by rfl) (hx : Loc X.env.scope x := by first | exact Or.inl rfl | exact Or.inr rfl) (hf : X.fn x = true ∨ X.env.scope.names.lookup x = some .local := by first | exact .inl rfl | exact .inr rfl) :
    GT X B (.Name x pos) r d (r.set i (.im d)) := ⟨_, pg_name hN hi hx hf, fun H σ v S y Q h => h _ (S.im y)⟩
theorem gts_nil : GTs X B [] r [] r := ⟨_, pgs_nil, fun H σ vs S y Q h => by cases y; exact ⟨rfl, h _ S⟩⟩
theorem gts_cons (i : Nat) {x : Str} (hN : X.N.Nodup) (h2 : GTs X B es (r.set i (.im d)) ds q) (hi : X.N[i]? = some x := by rfl) (hx : Loc X.env.scope x := by first | exact Or.inl rfl | exact Or.inr rfl) (hf : X.fn x = true ∨ X.env.scope.names.lookup x = some .local := by first | exact .inl rfl | exact .inr rfl)
    (hs : (assignEach (.Name x pos :: es) X.env).map (·.2) = assign (.Name x pos) X.env :: (assignEach es X.env).map (·.2) := by rfl) : GTs X B (.Name x pos :: es) r (d :: ds) q := by
  obtain ⟨g, p, k⟩ := h2
  refine ⟨_, pgs_cons (pg_name hN hi hx hf) p hs, fun H σ vs S y Q h => ?_⟩
  cases y with
  | cons y1 y2 =>
    refine ⟨_, _, rfl, k H _ _ (S.im y1) (y2.mono (hide_sub fun p hp => ?_)) Q h⟩
    exact (List.mem_append.mp hp).elim (fun z => (own_set_mem z).elim (fun w => by cases w) fun w => List.mem_append_left _ w) fun z => List.mem_append_right _ z
theorem gt_tup {n : Nat} (hc : X.calm = true) (h : GTs X B es r ds q) (hn : (assignEach es X.env).length = ds.length := by rfl) (hst : (assignEach es X.env).findIdx? (·.1) = none := by rfl) : GT X B (.Tuple es n pos) r (.tuple ds) q := by
  obtain ⟨g, p, k⟩ := h
  refine ⟨_, pg_tup hc p hn hst, fun H σ v S y Q h => ?_⟩
  cases y with
  | tup h1 h2 => exact ⟨_, _, rfl, seqT hide_same h1, h2.len, k H σ _ S h2 Q h⟩
/-- a, b = e -/
theorem sv_asgT (he : EV X B e r d) (ht : GT X B tg r d q) (h : SV X B W rest q P) (hs : swapsWithSole [tg] e pos.line X.env = pure false := by rfl) (hw : swappedStores [tg] e X.env = pure none := by rfl)
    (h1 : (assignEach [tg] X.env).map (·.2) = [assign tg X.env] := by rfl) : SV X B W (.Assign [tg] e pos :: rest) r P := fun H σ E S kt => by
  obtain ⟨te, p, k⟩ := he
  obtain ⟨g, pg, kg⟩ := ht
  exact ⟨_, pss_cons (ps_asg p pg hs hw h1) wS_ok, k H σ S _ fun v H1 s1 y => kg H1 σ v (S.mono s1) y _ fun σ' S' => h H1 σ' E S' kt⟩

def wG (X : Cx) (tg : Expr) : TG := fun v σ H Q => ∃ gx, PG X tg gx ∧ gx v σ H Q
theorem wG_ok : PG X tg (wG X tg) := ⟨fun pins s σ H v u Q I rv ⟨_, p, z⟩ => p.run pins s σ H v u Q I rv z⟩
/-! a loop's ground: what is seen at its start stays -/
def Bx.at (B : Bx) (r : List Sl) (H : Hp) : Bx := ⟨hide H (own r), B.ps, B.ts, B.gr⟩
theorem SOk.rebase {K : PySem.W.Frag} {H : Hp} {σ : St} (S : SOk K B r H σ) : SOk K (B.at r H) r H σ :=
  ⟨hide_same, fun p hp => by
    have h0 := S.old p hp
    show hide H (own r) p ≠ none
    rw [hide_out fun z => h0 (S.new p z)]
    exact S.dom p (List.mem_append_right _ hp), fun p hp => hide_in hp, S.nd, S.len, S.sl, S.tb, S.gr, S.gp⟩
theorem SOk.back {K : PySem.W.Frag} {H H' : Hp} {σ σ' : St} (S : SOk K B r H σ) (S' : SOk K (B.at r H) q H' σ') : SOk K B q H' σ' := by
  have sub : Same B.H0 (hide H (own r)) := fun a o e => by
    rw [hide_out fun z => by rw [S.new a z] at e; cases e]
    exact S.ex a o e
  refine ⟨sub.trans S'.ex, S.old, fun p hp => ?_, S'.nd, S'.len, S'.sl, S'.tb, S'.gr, S'.gp⟩
  cases e : B.H0 p with
  | none => rfl
  | some o =>
    have h1 := S'.new p hp
    obtain ⟨u, e2⟩ := (sub p o e).is
    rw [show (B.at r H).H0 p = some u from e2] at h1
    cases h1
theorem RsOk.back {qs : List Addr} {K : PySem.W.Frag} {H H' : Hp} {σ : St} {v : V} {s : Rs} (S : SOk K B r H σ) (h : RsOk K ⟨(B.at r H).H0, qs, [], []⟩ H' v s) : RsOk K ⟨B.H0, qs, [], []⟩ H' v s := by
  have sub : ∀ p, (B.at r H).H0 p = none → B.H0 p = none := fun p hp => by
    cases e : B.H0 p with
    | none => rfl
    | some o =>
      have h1 : Ext1 o (hide H (own r) p) := by
        rw [hide_out fun z => by rw [S.new p z] at e; cases e]
        exact S.ex p o e
      obtain ⟨u, h1⟩ := h1.is
      rw [show hide H (own r) p = none from hp] at h1
      cases h1
  cases s with
  | da d => exact h
  | nl ds => obtain ⟨p, vs, e1, e2, e3, e4⟩ := h; exact ⟨p, vs, e1, sub p e2, e3, e4⟩
  | nd ds => obtain ⟨p, vs, e1, e2, e3, e4⟩ := h; exact ⟨p, vs, e1, sub p e2, e3, e4⟩
  | rf a => exact h
def LN (I : Nat → List Sl → Prop) (i : Nat) : List Sl → Prop := fun q => ∃ q', Wk q q' ∧ I i q'
theorem ln_of {I : Nat → List Sl → Prop} {i : Nat} {q q' : List Sl} (w : Wk q q') (h : I i q') : LN I i q := ⟨q', w, h⟩
theorem ln_is {I : Nat → List Sl → Prop} {i : Nat} {q : List Sl} (h : I i q) : LN I i q := ⟨q, Wk.refl q, h⟩

theorem loop_nx {I : Nat → List Sl → Prop} {i : Nat} {q q' : List Sl} {bk : List Sl → Prop} (w : Wk q q') (h : I i q') : (P.loop (LN I i) bk).nx q := ⟨q', w, h⟩
/-- for x in range(n) -/
theorem sv_forR (I : Nat → List Sl → Prop) {n : Int} (tq : Nat → List Sl → List Sl) {p cp : Pos} (g : Go X W k) (hn : EV X B a r (.int n)) (hb : -(2 ^ 62) ≤ n ∧ n < 2 ^ 62) (hm : X.mg "range" = none) (ht : ∀ (i : Nat) r', GT X B tg r' (.int (i : Int)) (tq i r')) (h0 : I 0 r)
    (hs : ∀ (i : Nat) r', (i : Int) < n → I i r' → SV X B W body (tq i r') (P.loop (LN I (i + 1)) fun q => SV X B W rest q P)) (hd : ∀ r', I n.toNat r' → SV X B W rest r' P) (hg : Gl X "range" := by rfl)
    (hst : starEach [a] X.env = [(false, eval a X.env)] := by rfl) (hfs : ∀ x, foldedSetIterable (.Call (.Name "range" p) [a] [] cp) X.env x = pure x := by intro _; rfl) : SV X B W (.For tg (.Call (.Name "range" p) [a] [] cp) body [] pos :: rest) r P := fun H σ E S kt => by
  obtain ⟨te, pe, ke⟩ := hn
  refine ⟨_, pss_cons (ps_for g.po g.calm (pi_range1 hg hm (pa_cons pe pa_nil (by rw [hst]; rfl)) hst) (wG_ok (tg := tg)) (wS_ok (sts := body)) hfs) wS_ok, ?_⟩
  refine ke H σ S _ fun v H1 s1 y => ?_
  cases y
  refine ⟨n, rfl, hb.1, hb.2, ?_⟩
  refine for_range (g := wG X tg) (tb := wS X body) (D := { E with nx := wS X rest E }) (lo := 0) (n := n.toNat) (fun i σ' H' => ∃ r', SOk X.K B r' H' σ' ∧ I i r') ⟨r, S.mono s1, h0⟩ (fun i σ' H' hi ⟨r', S', hI⟩ => ?_) (fun σ' H' ⟨r', S', hI⟩ => hd r' hI H' σ' E S' kt)
  obtain ⟨gx, px, kx⟩ := ht i r'
  rw [Int.zero_add]
  refine ⟨gx, px, kx H' σ' _ S' (.int _) _ fun σ2 S2 => hs i r' (by omega) hI H' σ2 _ S2 ⟨?_, kt.rt, ?_, ?_, kt.ex⟩⟩
  · rintro r2 σ3 H3 S3 ⟨q', w, hI'⟩
    exact ⟨q', S3.weak w, hI'⟩
  · exact fun r2 σ3 H3 S3 hb => hb H3 σ3 E S3 kt
  · rintro r2 σ3 H3 S3 ⟨q', w, hI'⟩
    exact ⟨q', S3.weak w, hI'⟩
/-- for x in range(lo, n) -/
theorem sv_forR2 (I : Nat → List Sl → Prop) {lo n : Int} (tq : Nat → List Sl → List Sl) {p cp : Pos} (g : Go X W k) (hl : EV X B a r (.int lo)) (hn : EV X B b r (.int n)) (hb : -(2 ^ 62) ≤ lo ∧ lo < 2 ^ 62 ∧ -(2 ^ 62) ≤ n ∧ n < 2 ^ 62) (hm : X.mg "range" = none) (ht : ∀ (i : Nat) r', GT X B tg r' (.int (lo + (i : Int))) (tq i r')) (h0 : I 0 r)
    (hs : ∀ (i : Nat) r', lo + (i : Int) < n → I i r' → SV X B W body (tq i r') (P.loop (LN I (i + 1)) fun q => SV X B W rest q P)) (hd : ∀ r', I (n - lo).toNat r' → SV X B W rest r' P) (hg : Gl X "range" := by rfl)
    (hst : starEach [a, b] X.env = [(false, eval a X.env), (false, eval b X.env)] := by rfl) (hst2 : starEach [b] X.env = [(false, eval b X.env)] := by rfl) (hfs : ∀ x, foldedSetIterable (.Call (.Name "range" p) [a, b] [] cp) X.env x = pure x := by intro _; rfl) : SV X B W (.For tg (.Call (.Name "range" p) [a, b] [] cp) body [] pos :: rest) r P := fun H σ E S kt => by
  obtain ⟨tl, pl, kl⟩ := hl
  obtain ⟨te, pe, ke⟩ := hn
  refine ⟨_, pss_cons (ps_for g.po g.calm (pi_range2 hg hm (pa_cons pl (pa_cons pe pa_nil (by rw [hst2]; rfl)) (by rw [hst, hst2])) hst hst2) (wG_ok (tg := tg)) (wS_ok (sts := body)) hfs) wS_ok, ?_⟩
  refine kl H σ S _ fun v0 H0 s0 y0 => ke H0 σ (S.mono s0) _ fun v H1 s1 y => ?_
  cases y0
  cases y
  refine ⟨lo, n, rfl, hb, ?_⟩
  refine for_range (g := wG X tg) (tb := wS X body) (D := { E with nx := wS X rest E }) (lo := lo) (n := (n - lo).toNat) (fun i σ' H' => ∃ r', SOk X.K B r' H' σ' ∧ I i r') ⟨r, S.mono (s0.trans s1), h0⟩ (fun i σ' H' hi ⟨r', S', hI⟩ => ?_) (fun σ' H' ⟨r', S', hI⟩ => hd r' hI H' σ' E S' kt)
  obtain ⟨gx, px, kx⟩ := ht i r'
  refine ⟨gx, px, kx H' σ' _ S' (.int _) _ fun σ2 S2 => hs i r' (by omega) hI H' σ2 _ S2 ⟨?_, kt.rt, ?_, ?_, kt.ex⟩⟩
  · rintro r2 σ3 H3 S3 ⟨q', w, hI'⟩
    exact ⟨q', S3.weak w, hI'⟩
  · exact fun r2 σ3 H3 S3 hb => hb H3 σ3 E S3 kt
  · rintro r2 σ3 H3 S3 ⟨q', w, hI'⟩
    exact ⟨q', S3.weak w, hI'⟩
/-- the body's wishes over the loop's ground -/
theorem Kt.loop {E : Ends} {H : Hp} {σ : St} {I : Nat → List Sl → Prop} {i : Nat} (S : SOk X.K B r H σ) (kt : Kt X B W P E) (N : St → Hp → Prop) (hN : ∀ q H' σ', SOk X.K (B.at r H) q H' σ' → I i q → N σ' H') :
    Kt X (B.at r H) W (P.loop (LN I i) fun q => SV X B W rest q P) { nx := N, ct := N, bk := wS X rest E, rt := E.rt } := by
  refine ⟨?_, fun s v q σ' H' S' y => kt.rt s v q σ' H' (S.back S') (RsOk.back S y), fun q σ' H' S' hb => hb H' σ' E (S.back S') kt, ?_, fun C q σ' H' S' => kt.ex C q σ' H' (S.back S')⟩
  · rintro q σ' H' S' ⟨q', w, hI⟩
    exact hN q' H' σ' (S'.weak w) hI
  · rintro q σ' H' S' ⟨q', w, hI⟩
    exact hN q' H' σ' (S'.weak w) hI
/-- for x in a list (data) -/
theorem sv_forL (I : Nat → List Sl → Prop) (tq : D → List Sl → List Sl) (g : Go X W k) (he : EV X B e r (.list ds)) (ht : ∀ B (i : Nat) d r', ds[i]? = some d → GT X B tg r' d (tq d r')) (h0 : I 0 r)
    (hs : ∀ H1 (i : Nat) d r', ds[i]? = some d → I i r' → SV X ⟨H1, B.ps, B.ts, B.gr⟩ W body (tq d r') (P.loop (LN I (i + 1)) fun q => SV X B W rest q P)) (hd : ∀ r', I ds.length r' → SV X B W rest r' P)
    (hfs : ∀ x, foldedSetIterable e X.env x = pure x := by intro _; rfl) : SV X B W (.For tg e body [] pos :: rest) r P := fun H σ E S kt => by
  obtain ⟨te, pe, ke⟩ := he
  refine ⟨_, pss_cons (ps_for g.po g.calm (pi_list pe) (wG_ok (tg := tg)) (wS_ok (sts := body)) hfs) wS_ok, ?_⟩
  refine ke H σ S _ fun v H1 s1 y => ?_
  have S1 := S.mono s1
  cases y with
  | @lst a xs _ h1 h2 =>
    have z1 : SqL X.K (hide H1 (own r)) a xs := (hide_sub fun p hp => List.mem_append_left _ hp : Same (hid B r H1) (hide H1 (own r))).seq h1
    have z2 : RpA X.K (hide (hide H1 (own r)) B.ps) xs ds := h2.mono fun b o eo => by
      have eo : hide H1 (own r ++ B.ps) b = some o := eo
      by_cases hb : b ∈ own r ++ B.ps
      · rw [hide_in hb] at eo; cases eo
      · rw [hide_out hb] at eo
        rw [hide_out fun w => hb (List.mem_append_right _ w), hide_out fun w => hb (List.mem_append_left _ w)]
        exact .inl eo
    refine ⟨a, rfl, ⟨xs, hide_same.seq h1⟩, ?_⟩
    have hl : xs.length = ds.length := h2.len
    refine for_list (g := wG X tg) (tb := wS X body) (D := { E with nx := wS X rest E }) (K := X.K) (a := a) (xs := xs) (fun i σ' H' => ∃ r', SOk X.K (B.at r H1) r' H' σ' ∧ I i r') ⟨r, S1.rebase, h0⟩ (fun i σ' H' _ ⟨r', S', hI⟩ => S'.ex.seq (H := hide H1 (own r)) z1) (fun i x σ' H' hi ⟨r', S', hI⟩ => ?_) (fun σ' H' ⟨r', S', hI⟩ => hd r' (hl ▸ hI) H' σ' E (S1.back S') kt)
    obtain ⟨d, hd', rd⟩ := z2.getV hi
    obtain ⟨gx, px, kx⟩ := ht (B.at r H1) i d r' hd'
    have rd' : Rp X.K (hid (B.at r H1) r' H') x d := rd.mono fun b o eo => by
      show Ext1 o (hide H' (own r' ++ B.ps) b)
      by_cases hb : b ∈ B.ps
      · rw [hide_in hb] at eo; cases eo
      · rw [hide_out hb] at eo
        have e2 : Ext1 o (H' b) := S'.ex b o eo
        rw [hide_out fun w => (List.mem_append.mp w).elim (fun w' => by
          have := S'.new b w'
          rw [show (B.at r H1).H0 b = some o from eo] at this
          cases this) hb]
        exact e2
    exact ⟨gx, px, kx H' σ' _ S' rd' _ fun σ2 S2 => hs (hide H1 (own r)) i d r' hd' hI H' σ2 _ S2 (Kt.loop S1 kt _ fun q H3 σ3 S3 hI3 => ⟨q, S3, hI3⟩)⟩
/-- for x in a tuple (data) -/
theorem sv_forT (I : Nat → List Sl → Prop) (tq : D → List Sl → List Sl) (g : Go X W k) (he : EV X B e r (.tuple ds)) (ht : ∀ B (i : Nat) d r', ds[i]? = some d → GT X B tg r' d (tq d r')) (h0 : I 0 r)
    (hs : ∀ H1 (i : Nat) d r', ds[i]? = some d → I i r' → SV X ⟨H1, B.ps, B.ts, B.gr⟩ W body (tq d r') (P.loop (LN I (i + 1)) fun q => SV X B W rest q P)) (hd : ∀ r', I ds.length r' → SV X B W rest r' P)
    (hfs : ∀ x, foldedSetIterable e X.env x = pure x := by intro _; rfl) : SV X B W (.For tg e body [] pos :: rest) r P := fun H σ E S kt => by
  obtain ⟨te, pe, ke⟩ := he
  refine ⟨_, pss_cons (ps_for g.po g.calm (pi_tup pe) (wG_ok (tg := tg)) (wS_ok (sts := body)) hfs) wS_ok, ?_⟩
  refine ke H σ S _ fun v H1 s1 y => ?_
  have S1 := S.mono s1
  cases y with
  | @tup a xs _ h1 h2 =>
    have z1 : SqT X.K (hide H1 (own r)) a xs := seqT (hide_sub fun p hp => List.mem_append_left _ hp : Same (hid B r H1) (hide H1 (own r))) h1
    have z2 : RpA X.K (hide (hide H1 (own r)) B.ps) xs ds := h2.mono fun b o eo => by
      have eo : hide H1 (own r ++ B.ps) b = some o := eo
      by_cases hb : b ∈ own r ++ B.ps
      · rw [hide_in hb] at eo; cases eo
      · rw [hide_out hb] at eo
        rw [hide_out fun w => hb (List.mem_append_right _ w), hide_out fun w => hb (List.mem_append_left _ w)]
        exact .inl eo
    refine ⟨a, rfl, ⟨xs, seqT hide_same h1⟩, ?_⟩
    have hl : xs.length = ds.length := h2.len
    refine for_tup (g := wG X tg) (tb := wS X body) (D := { E with nx := wS X rest E }) (K := X.K) (a := a) (xs := xs) (fun i σ' H' => ∃ r', SOk X.K (B.at r H1) r' H' σ' ∧ I i r') ⟨r, S1.rebase, h0⟩ (fun i σ' H' _ ⟨r', S', hI⟩ => seqT S'.ex (H := hide H1 (own r)) z1) (fun i x σ' H' hi ⟨r', S', hI⟩ => ?_) (fun σ' H' ⟨r', S', hI⟩ => hd r' (hl ▸ hI) H' σ' E (S1.back S') kt)
    obtain ⟨d, hd', rd⟩ := z2.getV hi
    obtain ⟨gx, px, kx⟩ := ht (B.at r H1) i d r' hd'
    have rd' : Rp X.K (hid (B.at r H1) r' H') x d := rd.mono fun b o eo => by
      show Ext1 o (hide H' (own r' ++ B.ps) b)
      by_cases hb : b ∈ B.ps
      · rw [hide_in hb] at eo; cases eo
      · rw [hide_out hb] at eo
        have e2 : Ext1 o (H' b) := S'.ex b o eo
        rw [hide_out fun w => (List.mem_append.mp w).elim (fun w' => by
          have := S'.new b w'
          rw [show (B.at r H1).H0 b = some o from eo] at this
          cases this) hb]
        exact e2
    exact ⟨gx, px, kx H' σ' _ S' rd' _ fun σ2 S2 => hs (hide H1 (own r)) i d r' hd' hI H' σ2 _ S2 (Kt.loop S1 kt _ fun q H3 σ3 S3 hI3 => ⟨q, S3, hI3⟩)⟩
end

/-! ### defs -/
/-- a def's contract: of the arguments; what is wanted of its result, of the class of an exception -/
abbrev Ct := List D → (Rs → Prop) → (Addr → Prop) → Prop
def spD (T : List Addr) (K : PySem.W.Frag) (c : Ct) : Sp := fun vs H Q E => ∃ ps ds Po Ex, (∀ t ∈ T, TabG H t) ∧ (∀ p ∈ ps, H p ≠ none) ∧ RpA K (hide H ps) vs ds ∧ c ds Po Ex ∧
  (∀ s v H', Same H H' → RsOk K ⟨H, ps, [], []⟩ H' v s → Po s → Q v H') ∧ ∀ C H', Same H H' → Ex C → E (.ref C) none H'
/-- the def called x keeps the contract c -/
def Cal (P : Program) (w : World) (T : List Addr) (K : PySem.W.Frag) (mg : Str → Option Value) (base : Heap) (x : Str) (k : Nat) (c : Ct) : Prop :=
  ∃ f fd ps, FnOk P w K mg base (L2.CX P w) k f fd ps (spD T K c) ∧ mg x = some (.ref f) ∧ PySem.W.keepIn K (.ref f) = true ∧ Binds K fd ps []
def ini (N : List Str) (ds : List D) : List Sl := ds.map Sl.im ++ List.replicate (N.length - ds.length) .no
theorem own_ini : ∀ {ds : List D} {n : Nat}, own (ds.map Sl.im ++ List.replicate n .no) = []
  | [], 0 => rfl
  | [], n + 1 => by
    show own (List.replicate n .no) = []
    exact own_ini (ds := []) (n := n)
  | _ :: ds, n => own_ini (ds := ds) (n := n)
theorem sok_ini {T : List Addr} {K : PySem.W.Frag} {H : Hp} {ps : List Addr} (tb : ∀ t ∈ T, TabG H t) {vs : List V} {ds : List D} {N : List Str} (hp : ∀ p ∈ ps, H p ≠ none) (h : RpA K (hide H ps) vs ds) (hl : ds.length ≤ N.length) : SOk K ⟨H, ps, T, []⟩ (ini N ds) H (L2.start N vs) := by
  have e0 : own (ini N ds) = [] := own_ini
  have hlen := h.len
  refine ⟨Same.refl H, hp, fun p q => (by rw [e0] at q; cases q), (by rw [e0]; exact List.nodup_nil), ?_, fun i s e => ?_, tb, trivial, fun p hp => by cases hp⟩
  · unfold L2.start ini
    simp only [List.length_append, List.length_map, List.length_replicate]
    omega
  · show SlOk K (hide H (own (ini N ds) ++ ps)) H s _
    rw [e0]
    show SlOk K (hide H ps) H s _
    unfold ini at e
    unfold L2.start
    by_cases hi : i < ds.length
    · rw [List.getElem?_append_left (by simpa using hi), List.getElem?_map] at e
      rw [List.getElem?_append_left (by simpa [hlen] using hi), List.getElem?_map]
      cases e2 : ds[i]? with
      | none => rw [e2] at e; cases e
      | some d =>
        rw [e2] at e
        cases e
        obtain ⟨v, h1, h2⟩ := h.get e2
        rw [h1]
        exact ⟨v, rfl, h2⟩
    · rw [List.getElem?_append_right (by simpa using hi)] at e
      have : s = .no := by
        rw [List.getElem?_replicate] at e
        split at e
        · cases e; rfl
        · cases e
      subst this
      trivial
theorem fn_d {P : Program} {w : World} {T : List Addr} {K : PySem.W.Frag} {mg : Str → Option Value} {base : Heap} {x qual : Str} {st : Stmt} {f : Addr} {fd : FuncData} {N ps : List Str} {k : Nat} {c : Ct} (F : Fun K x qual st f fd) (S : FnScope N ps (defScope st))
    (hl : ∀ ds Q E, c ds Q E → ds.length = ps.length)
    (body : ∀ (cdv : Value) (A : Around) (outer : List Env) (s : Shared) (H H0 : Hp) (E : XK) (qs : List Addr) (ds : List D) (Q : Rs → Prop) (Ex : Addr → Prop), Go (cxOf (L2.CX P w) P w K mg base N qual (defScope st) f cdv A outer s H E) (fun cls d _ H => E cls d H) k → c ds Q Ex →
      SV (cxOf (L2.CX P w) P w K mg base N qual (defScope st) f cdv A outer s H E) ⟨H0, qs, T, []⟩ (fun cls d _ H => E cls d H) (defBody st) (ini N ds) { nx := fun _ => Q (.da .none), rt := fun s _ => Q s, ex := fun C _ => Ex C }) :
    FnOk P w K mg base (L2.CX P w) (k + 1) f fd ps (spD T K c) := by
  have hN : ps.length ≤ N.length := by
    have := congrArg List.length S.pre
    rw [List.length_take] at this
    omega
  refine F.okX S (fun vs H Q E h => ?_) (fun cdv A outer s H vs Q E hr h => ?_)
  · obtain ⟨qs, ds, Po, Ex, _, _, ra, hc, _⟩ := h
    rw [ra.len]
    exact hl _ _ _ hc
  · obtain ⟨qs, ds, Po, Ex, tb, hp, ra, hc, k1, k2⟩ := h
    have G : Go (cxOf (L2.CX P w) P w K mg base N qual (defScope st) f cdv A outer s H E) (fun cls d _ H => E cls d H) k :=
      ⟨hr, rfl, passes_of rfl, takes_of rfl rfl rfl rfl, S.nd⟩
    refine ⟨_, wS_ok, body cdv A outer s H H E qs ds Po Ex G hc H _ _ (sok_ini tb hp ra (by rw [hl _ _ _ hc]; exact hN)) ⟨fun r σ' H' S' hq => ?_, fun s v r σ' H' S' y hq => k1 s v H' S'.ex (y.sub fun p hp => List.mem_append_right _ hp) hq, fun _ _ _ _ z => z.elim, fun _ _ _ _ z => z.elim, fun C r σ' H' S' hx => k2 C H' S'.ex hx⟩⟩
    exact k1 (.da .none) .non H' S'.ex (show Rp K _ V.non .none from .non) hq

/-! ### calls -/
section
variable {X : Cx} {B : Bx} {W : WX} {P : Po} {r q : List Sl} {e a b tg : Expr} {es : List Expr} {rest body orelse : List Stmt} {st : Stmt} {d : D} {ds : List D} {pos pos' p : Pos} {k kk : Nat} {x : Str} {c : Ct}
/-- f(e, ..): what it may hand back, what it may raise -/
def EC (X : Cx) (B : Bx) (W : WX) (e : Expr) (r : List Sl) (Po : Rs → Prop) (Ex : Addr → Prop) : Prop :=
  ∃ te, PE X e te ∧ ∀ H σ, SOk X.K B r H σ → ∀ Q : VK, (∀ s v H1 H', Same H H1 → Same H1 H' → RsOk X.K ⟨H1, own r ++ B.ps, [], []⟩ H' v s → Po s → Q v H') → (∀ C H', Same H H' → Ex C → W (.ref C) none σ H') → te σ H Q
theorem ecCall {Po : Rs → Prop} {Ex : Addr → Prop} (g : Go X W kk) (C : Cal X.prog X.w B.ts X.K X.mg X.base x k c) (hk : k ≤ kk) (ha : EA X B (e :: es) r ds) (hc : c ds Po Ex) (hg : Gl X x := by rfl) (hdb : (x == ("__debug__" : Str)) = false := by decide)
    (he : starEach (e :: es) X.env = (false, eval e X.env) :: starEach es X.env := by rfl) (hpl : (backTo pos (starEach es X.env)).any (·.1) = false := by rfl) : EC X B W (.Call (.Name x p) (e :: es) [] pos) r Po Ex := by
  obtain ⟨f, fd, ps, F, hm, hkp, hb⟩ := C
  obtain ⟨ta, pa, ka⟩ := ha
  refine ⟨_, pe_callS F (g.hr.mono hk) hg hm hkp hb (fun σ => passAt g.tk σ) pa hdb he hpl, fun H σ S Q q qx => ka H σ S _ fun vs H1 s1 y => ?_⟩
  exact ⟨own r ++ B.ps, ds, Po, Ex, (S.mono s1).tb, (S.mono s1).dom, y, hc, fun s v H' z ro ho => q s v H1 H' s1 z ro ho, fun C H' z hx => qx C H' (s1.trans z) hx⟩
theorem ecCall0 {Po : Rs → Prop} (g : Go X W kk) (C : Cal X.prog X.w B.ts X.K X.mg X.base x k c) (hk : k ≤ kk) (hc : c [] Po (fun _ => False)) (hg : Gl X x := by rfl) (hdb : (x == ("__debug__" : Str)) = false := by decide) : EC X B W (.Call (.Name x p) [] [] pos) r Po (fun _ => False) := by
  obtain ⟨f, fd, ps, F, hm, hkp, hb⟩ := C
  refine ⟨_, pe_call0 F (g.hr.mono hk) hg hm hkp hb .nil passL hdb, fun H σ S Q q qx => ?_⟩
  exact ⟨own r ++ B.ps, [], Po, fun _ => False, S.tb, S.dom, .nil, hc, fun s v H' z ro ho => q s v H H' (Same.refl H) z ro ho, fun C H' z hx => hx.elim⟩
theorem EC.ev (h : EC X B W e r (fun s => s = .da d) (fun _ => False)) : EV X B e r d := by
  obtain ⟨te, p, k⟩ := h
  exact ⟨te, p, fun H σ S Q q => k H σ S Q (fun s v H1 H' s1 s2 ro e => by subst e; exact q v H' (s1.trans s2) ro) fun _ _ _ z => z.elim⟩
theorem rs_list {K : PySem.W.Frag} {H H1 : Hp} {ps : List Addr} {v : V} (hp : ∀ p ∈ ps, H p ≠ none) (h : RsOk K ⟨H, ps, [], []⟩ H1 v (.nl ds)) : Rp K (hide H1 ps) v (.list ds) := by
  obtain ⟨l, vs, rfl, e0, e1, ra⟩ := h
  refine .lst (SqL.of (by rw [hide_out fun z => hp l z e0]; exact e1)) (ra.mono (hide_sub fun q hq => List.mem_cons_of_mem _ hq))
theorem rs_dict {K : PySem.W.Frag} {H H1 : Hp} {ps : List Addr} {v : V} {kvs : List (Key × D)} (hp : ∀ p ∈ ps, H p ≠ none) (h : RsOk K ⟨H, ps, [], []⟩ H1 v (.nd kvs)) : Rp K (hide H1 ps) v (.dict (kvs.map kdm)) := by
  obtain ⟨l, vs, rfl, e0, e1, ra⟩ := h
  refine .dct (by rw [hide_out fun z => hp l z e0]; exact e1) (ra.mono (hide_sub fun q hq => List.mem_cons_of_mem _ hq))
theorem EC.evL (h : EC X B W e r (fun s => s = .nl ds) (fun _ => False)) : EV X B e r (.list ds) := by
  obtain ⟨te, p, k⟩ := h
  exact ⟨te, p, fun H σ S Q q => k H σ S Q (fun s v H1 H' s1 s2 ro e => by subst e; exact q v H' (s1.trans s2) (rs_list (S.mono s1).dom ro)) fun _ _ _ z => z.elim⟩
theorem EC.evK {kvs : List (Key × D)} (h : EC X B W e r (fun s => s = .nd kvs) (fun _ => False)) : EV X B e r (.dict (kvs.map kdm)) := by
  obtain ⟨te, p, k⟩ := h
  exact ⟨te, p, fun H σ S Q q => k H σ S Q (fun s v H1 H' s1 s2 ro e => by subst e; exact q v H' (s1.trans s2) (rs_dict (S.mono s1).dom ro)) fun _ _ _ z => z.elim⟩
def Rs.sl : Rs → Addr → Sl
  | .da d, _ => .im d
  | .nl ds, p => .ol p ds
  | .nd kvs, p => .od p kvs
  | .rf a, _ => .rf a
theorem heap_split {H : Hp} {p : Addr} {o : HO} (h : H p = some o) : H = upd (fun a => if a = p then none else H a) p o := by
  funext a
  by_cases e : a = p
  · subst e; rw [upd_same]; exact h
  · rw [upd_ne e]; exact (if_neg e).symm
/-- a result is stored -/
theorem SOk.res {K : PySem.W.Frag} {H H1 H' : Hp} {σ : St} {v : V} {s : Rs} {i : Nat} (S : SOk K B r H σ) (s1 : Same H H1) (s2 : Same H1 H') (h : RsOk K ⟨H1, own r ++ B.ps, [], []⟩ H' v s) : ∃ p, SOk K B (r.set i (s.sl p)) H' (σ.set i (some v)) := by
  have S1 := S.mono s1
  cases s with
  | da d => exact ⟨0, (S1.mono s2).im h⟩
  | rf a => exact ⟨0, (S1.mono s2).set (s := .rf a) rfl (congrArg (fun z => some (some z)) h)⟩
  | nl ds =>
    obtain ⟨p, vs, rfl, e0, e1, ra⟩ := h
    have e0 : H1 p = none := e0
    refine ⟨p, ?_⟩
    have sm : Same H1 (fun a => if a = p then none else H' a) := fun a o ea => by
      show Ext1 o (if a = p then none else H' a)
      rw [if_neg (ne_of_none ea e0)]; exact s2 a o ea
    have := (S1.mono sm).put (i := i) (s := .ol p ds) (p := p) (o := .lst vs) rfl (if_pos rfl) ⟨rfl, vs, upd_same, ra.mono fun a o ea => by
      by_cases ha : a ∈ p :: (own r ++ B.ps)
      · rw [hide_in ha] at ea; cases ea
      · rw [hide_out ha] at ea
        show Ext1 o (hide (fun a => if a = p then none else H' a) (own r ++ B.ps) a)
        rw [hide_out fun z => ha (List.mem_cons_of_mem _ z)]
        exact .inl ((if_neg fun (z : a = p) => ha (by rw [z]; exact List.mem_cons_self)).trans ea)⟩
    rw [← heap_split e1] at this
    exact this
  | nd ds =>
    obtain ⟨p, vs, rfl, e0, e1, ra⟩ := h
    have e0 : H1 p = none := e0
    refine ⟨p, ?_⟩
    have sm : Same H1 (fun a => if a = p then none else H' a) := fun a o ea => by
      show Ext1 o (if a = p then none else H' a)
      rw [if_neg (ne_of_none ea e0)]; exact s2 a o ea
    have := (S1.mono sm).put (i := i) (s := .od p ds) (p := p) (o := .dK vs) rfl (if_pos rfl) ⟨rfl, vs, upd_same, ra.mono fun a o ea => by
      by_cases ha : a ∈ p :: (own r ++ B.ps)
      · rw [hide_in ha] at ea; cases ea
      · rw [hide_out ha] at ea
        show Ext1 o (hide (fun a => if a = p then none else H' a) (own r ++ B.ps) a)
        rw [hide_out fun z => ha (List.mem_cons_of_mem _ z)]
        exact .inl ((if_neg fun (z : a = p) => ha (by rw [z]; exact List.mem_cons_self)).trans ea)⟩
    rw [← heap_split e1] at this
    exact this
/-- x = f(..) -/
theorem sv_asgC (i : Nat) {x : Str} {Po : Rs → Prop} {Ex : Addr → Prop} (g : Go X W k) (he : EC X B W e r Po Ex) (h : ∀ s p, Po s → SV X B W rest (r.set i (s.sl p)) P) (hxe : ∀ C, Ex C → P.ex C r) (hi : X.N[i]? = some x := by rfl) (hx : Loc X.env.scope x := by first | exact Or.inl rfl | exact Or.inr rfl)
    (hs : swapsWith e (some (.Name x pos')) pos.line X.env = pure false := by rfl) (hf : X.fn x = true ∨ X.env.scope.names.lookup x = some .local := by first | exact .inl rfl | exact .inr rfl) : SV X B W (.Assign [.Name x pos'] e pos :: rest) r P := fun H σ E S kt => by
  obtain ⟨te, p, q⟩ := he
  exact ⟨_, pss_cons (ps_set g.nd hi hx p hs hf) wS_ok, q H σ S _ (fun s v H1 H' s1 s2 ro ho => by
    obtain ⟨l, S'⟩ := S.res (i := i) s1 s2 ro
    exact h s l ho H' _ E S' kt) fun C H' z hx => kt.ex C r σ H' (S.mono z) (hxe C hx)⟩
/-- f(..) as a statement -/
theorem sv_dropC {Po : Rs → Prop} {Ex : Addr → Prop} (he : EC X B W e r Po Ex) (h : SV X B W rest r P) (hxe : ∀ C, Ex C → P.ex C r) (hs : swapsWith e none pos.line X.env = pure false := by rfl) : SV X B W (.Expr e pos :: rest) r P := fun H σ E S kt => by
  obtain ⟨te, p, q⟩ := he
  exact ⟨_, pss_cons (ps_expr p hs) wS_ok, q H σ S _ (fun s v H1 H' s1 s2 ro ho => h H' σ E (S.mono (s1.trans s2)) kt) fun C H' z hx => kt.ex C r σ H' (S.mono z) (hxe C hx)⟩
/-- return f(..) -/
theorem sv_retC {Po : Rs → Prop} {Ex : Addr → Prop} (he : EC X B W e r Po Ex) (h : ∀ s, Po s → P.rt s r) (hxe : ∀ C, Ex C → P.ex C r) : SV X B W (.Return (some e) pos :: rest) r P := fun H σ E S kt => by
  obtain ⟨te, p, q⟩ := he
  refine ⟨_, pss_cons (ps_ret p) wS_ok, q H σ S _ (fun s v H1 H' s1 s2 ro ho => kt.rt s v r σ H' (S.mono (s1.trans s2)) ?_ (h s ho)) fun C H' z hx => kt.ex C r σ H' (S.mono z) (hxe C hx)⟩
  have up : ∀ l, H1 l = none → B.H0 l = none := fun l hl => by
    cases e0 : B.H0 l with
    | none => rfl
    | some o => have := (S.mono s1).ex l o e0; rw [hl] at this; exact this.no.elim
  cases s with
  | da d => exact ro
  | rf a => exact ro
  | nl ds =>
    obtain ⟨l, vs, e1, e2, e3, e4⟩ := ro
    exact ⟨l, vs, e1, up l e2, e3, e4⟩
  | nd ds =>
    obtain ⟨l, vs, e1, e2, e3, e4⟩ := ro
    exact ⟨l, vs, e1, up l e2, e3, e4⟩
end
end Tp
namespace Tp
open PySem L2
theorem atI_ints {ns : List Int} {i : Int} (h0 : 0 ≤ i) (h1 : i < (ns.map PyData.int).length) : atI (ns.map PyData.int) i = some (.int (ns.getD i.toNat 0)) := by
  have h2 : i.toNat < ns.length := by
    rw [List.length_map] at h1
    omega
  refine atI_of h0 ?_
  rw [List.getElem?_map, List.getElem?_eq_getElem h2, List.getD_eq_getElem?_getD, List.getElem?_eq_getElem h2]
  rfl
end Tp

namespace Tp
open PySem L2
/-! ### dicts -/
theorem RpK.find {K : PySem.W.Frag} {H : Hp} {k : Key} : ∀ {us : List (Key × V)} {kvs : List (Key × D)}, RpK K H us kvs → (valV us k = none ∧ lkK kvs k = none) ∨ ∃ v d, valV us k = some v ∧ lkK kvs k = some d ∧ Rp K H v d
  | _, _, .nil => .inl ⟨rfl, rfl⟩
  | _, _, .cons (k := q) (v := v) (vs := us) (d := d) (ds := kvs) h a => by
    by_cases e : q = k
    · refine .inr ⟨v, d, valV_pos e, ?_, h⟩
      unfold lkK
      exact if_pos e
    · rw [valV_neg (p := (q, v)) e, show lkK ((q, d) :: kvs) k = lkK kvs k from if_neg e]
      exact RpK.find a
theorem RpK.any {K : PySem.W.Frag} {H : Hp} {us : List (Key × V)} {kvs : List (Key × D)} (h : RpK K H us kvs) (p : Key → Bool) : (us.any fun x => p x.1) = kvs.any fun x => p x.1 := by
  have e := congrArg (List.any · p) h.keys
  simpa [List.any_map, Function.comp_def] using e
/-- d[k] = v -/
def putD (kvs : List (Key × D)) (k : Key) (d : D) : List (Key × D) :=
  if (kvs.any fun x => decide (x.1 = k)) = true then kvs.map (fun x => if x.1 = k then (x.1, d) else x) else kvs ++ [(k, d)]
theorem RpK.mapD {K : PySem.W.Frag} {H : Hp} {k : Key} {v : V} {d : D} (hv : Rp K H v d) : ∀ {us : List (Key × V)} {kvs : List (Key × D)}, RpK K H us kvs → RpK K H (us.map fun x => if x.1 = k then (x.1, v) else x) (kvs.map fun x => if x.1 = k then (x.1, d) else x)
  | _, _, .nil => .nil
  | _, _, .cons (k := q) (v := w) (vs := us) (d := e) (ds := kvs) h a => by
    by_cases eq : q = k
    · rw [List.map_cons, List.map_cons, if_pos eq, if_pos eq]
      exact .cons hv (RpK.mapD hv a)
    · rw [List.map_cons, List.map_cons, if_neg eq, if_neg eq]
      exact .cons h (RpK.mapD hv a)
theorem RpK.app {K : PySem.W.Frag} {H : Hp} : ∀ {us : List (Key × V)} {kvs : List (Key × D)} {ws : List (Key × V)} {es : List (Key × D)}, RpK K H us kvs → RpK K H ws es → RpK K H (us ++ ws) (kvs ++ es)
  | _, _, _, _, .nil, b => b
  | _, _, _, _, .cons h a, b => .cons h (RpK.app a b)
theorem RpK.put {K : PySem.W.Frag} {H : Hp} {k : Key} {v : V} {d : D} {us : List (Key × V)} {kvs : List (Key × D)} (h : RpK K H us kvs) (hv : Rp K H v d) : RpK K H (putK us k v) (putD kvs k d) := by
  unfold putK putD
  have e := h.any fun x => decide (x = k)
  rw [show (us.any fun kv => decide (kv.1 = k)) = kvs.any fun x => decide (x.1 = k) from e]
  by_cases c : (kvs.any fun x => decide (x.1 = k)) = true
  · rw [if_pos c, if_pos c]
    exact h.mapD hv
  · rw [if_neg c, if_neg c]
    exact h.app (.cons hv .nil)
theorem putD_len (kvs : List (Key × D)) (k : Key) (d : D) : (putD kvs k d).length ≤ kvs.length + 1 := by
  unfold putD
  split
  · rw [List.length_map]; omega
  · rw [List.length_append]; exact Nat.le_refl _
theorem Rp.key {K : PySem.W.Frag} {H : Hp} {v : V} {k : Key} (h : Rp K H v (kD k)) : v = kV k := by
  cases k with
  | inl i => cases h; rfl
  | inr x => cases h; rfl
theorem cut_same {ds : List D} {vs : List V} {K : PySem.W.Frag} {H : Hp} (h : RpA K H vs ds) (lo hi : Option Int) : RpA K H (cutV vs lo hi) ((ds.drop (HT.sIx ds.length 0 lo)).take (HT.sIx ds.length ds.length hi - HT.sIx ds.length 0 lo)) := by
  unfold cutV
  rw [h.len]
  exact RpA.take _ (RpA.drop _ h)
/-- xs[lo:hi] -/
def cutD (ds : List D) (lo hi : Option Int) : List D := (ds.drop (HT.sIx ds.length 0 lo)).take (HT.sIx ds.length ds.length hi - HT.sIx ds.length 0 lo)

section
variable {X : Cx} {B : Bx} {W : WX} {P : Po} {r q : List Sl} {e a b o tg : Expr} {es : List Expr} {rest body orelse : List Stmt} {st : Stmt} {d dx : D} {ds : List D} {pos pos' p : Pos} {k kk : Nat} {kvs : List (Key × D)}
theorem EV.key {i : Int} (h : EV X B e r (.int i)) : EV X B e r (kD (.inl i)) := h
theorem evDct0 : EV X B (.Dict [] [] pos) r (.dict []) :=
  ⟨_, pe_dnewK, fun H σ S Q g => fun l hl => g _ _ (same_new hl) (Rp.dct (kvs := []) (hide_new hl S.dom) .nil)⟩
theorem m1_of {m : Str} {apos cpos : Pos} (hst : NSt X e) (hb : attributeBase o m X.env (eval o X.env) = eval o X.env) (hl : (apos.endLine == cpos.line) = true) : M1 X o m apos e cpos := ⟨hb, by rw [hst]; rfl, hl, by rw [hst]; rfl⟩
/-- d.get(k) -/
theorem evGet1 {key : Key} {apos cpos : Pos} (g : Go X W kk) (ho : EK X B o r kvs) (he : EV X B e r (kD key)) (hb : attributeBase o "get" X.env (eval o X.env) = eval o X.env := by rfl) (hl : (apos.endLine == cpos.line) = true := by rfl) (hst : NSt X e := by exact fun _ => rfl) :
    EV X B (.Call (.Attribute o "get" apos) [e] [] cpos) r ((lkK kvs key).getD .none) := by
  obtain ⟨t, pp, kp⟩ := ho
  obtain ⟨t', pp', kp'⟩ := he
  refine ⟨_, pe_dget1 (hu_of g.hr) pp pp' (m1_of hst hb hl), fun H σ S Q q => kp H σ S _ fun a us H1 s1 y z => ⟨a, rfl, .inl ⟨us, .inl y⟩, kp' H1 σ (S.mono s1) _ fun v H2 s2 w => ?_⟩⟩
  rw [w.key]
  refine ⟨_, DGet.k (s2.k y), ?_⟩
  rcases (z.mono (hide_mono s2)).find (k := key) with ⟨h1, h2⟩ | ⟨v', d', h1, h2, h3⟩
  · rw [h1]; refine q .non H2 (s1.trans s2) ?_; rw [h2]; exact .non
  · rw [h1]; refine q v' H2 (s1.trans s2) ?_; rw [h2]; exact h3
/-- d[k], there -/
theorem evDix {key : Key} (g : Go X W kk) (ho : EK X B o r kvs) (he : EV X B e r (kD key)) (hk : lkK kvs key = some d) (hs : NoSl e := by first | exact fun _ => rfl | exact fun _ _ => rfl) : EV X B (.Subscript o e pos) r d := by
  obtain ⟨t, pp, kp⟩ := ho
  obtain ⟨t', pp', kp'⟩ := he
  refine ⟨_, pe_dget (hu_of g.hr) pp pp' hs, fun H σ S Q q => kp H σ S _ fun a us H1 s1 y z => kp' H1 σ (S.mono s1) _ fun v H2 s2 w => ?_⟩
  rw [w.key]
  rcases (z.mono (hide_mono s2)).find (k := key) with ⟨h1, h2⟩ | ⟨v', d', h1, h2, h3⟩
  · rw [hk] at h2; cases h2
  · rw [hk] at h2; cases h2
    refine ⟨a, v', rfl, ?_, q v' H2 (s1.trans s2) h3⟩
    rw [← h1]
    exact DGet.k (s2.k y)
theorem etDin {key : Key} (g : Go X W kk) (he : EV X B e r (kD key)) (ho : EK X B o r kvs) (hm : behindInMarks CmpOp.In o = false := by rfl) : EV X B (.Compare e [.In] [o] pos) r (.bool (lkK kvs key).isSome) := by
  obtain ⟨t, pp, kp⟩ := ho
  obtain ⟨t', pp', kp'⟩ := he
  refine ⟨_, pe_cmp (pc_din (hu_of g.hr) pp' pp) hm, fun H σ S Q q => kp' H σ S _ fun v H1 s1 w => kp H1 σ (S.mono s1) _ fun a us H2 s2 y z => ?_⟩
  rw [w.key]
  refine ⟨a, _, rfl, DGet.k y, ?_⟩
  rcases z.find (k := key) with ⟨h1, h2⟩ | ⟨v', d', h1, h2, h3⟩
  · rw [h1]; refine q _ H2 (s1.trans s2) ?_; rw [h2]; exact .bl _
  · rw [h1]; refine q _ H2 (s1.trans s2) ?_; rw [h2]; exact .bl _
theorem etDnin {key : Key} (g : Go X W kk) (he : EV X B e r (kD key)) (ho : EK X B o r kvs) (hm : behindInMarks CmpOp.NotIn o = false := by rfl) : EV X B (.Compare e [.NotIn] [o] pos) r (.bool (!(lkK kvs key).isSome)) := by
  obtain ⟨t, pp, kp⟩ := ho
  obtain ⟨t', pp', kp'⟩ := he
  refine ⟨_, pe_cmp (pc_dnotin (hu_of g.hr) pp' pp) hm, fun H σ S Q q => kp' H σ S _ fun v H1 s1 w => kp H1 σ (S.mono s1) _ fun a us H2 s2 y z => ?_⟩
  rw [w.key]
  refine ⟨a, _, rfl, DGet.k y, ?_⟩
  rcases z.find (k := key) with ⟨h1, h2⟩ | ⟨v', d', h1, h2, h3⟩
  · rw [h1]; refine q _ H2 (s1.trans s2) ?_; rw [h2]; exact .bl _
  · rw [h1]; refine q _ H2 (s1.trans s2) ?_; rw [h2]; exact .bl _
/-- d[k] = e, d owned -/
theorem sv_put (i : Nat) {x : Str} {l : Addr} {key : Key} {px pp' : Pos} (g : Go X W kk) (hr : r[i]? = some (.od l kvs)) (he : EV X B e r d) (hk : EV X B b r (kD key)) (hl : kvs.length < 100000) (h : SV X B W rest (r.set i (.od l (putD kvs key d))) P) (hN : X.N[i]? = some x := by rfl) (hv : Vis X.env.scope x := by first | exact Or.inl rfl | exact Or.inr (Or.inl rfl) | exact Or.inr (Or.inr rfl)) (hd : (x == ("__debug__" : Str)) = false := by decide)
    (hcd : (x == ("__classdict__" : Str)) = false := by decide) (hs : swapsWith e (some (.Subscript (.Name x px) b pp')) pos.line X.env = pure false := by rfl) : SV X B W (.Assign [.Subscript (.Name x px) b pp'] e pos :: rest) r P := fun H σ E S kt => by
  obtain ⟨t, pt, kp⟩ := he
  obtain ⟨t', pt', kp'⟩ := hk
  refine ⟨_, pss_cons (ps_dput (hu_of g.hr) (pe_var hN hv hd hcd) pt' pt hs) wS_ok, kp H σ S _ fun v H1 s1 y => ?_⟩
  obtain ⟨e1, us, y1, z⟩ := (S.mono s1).sl i _ hr
  refine ⟨_, e1, kp' H1 σ (S.mono s1) _ fun w H2 s2 u => ?_⟩
  rw [u.key]
  have y2 : H2 l = some (.dK us) := s2.k y1
  refine ⟨l, _, rfl, DPut.k y2 (Nat.lt_of_lt_of_le (by rw [z.len]; exact hl) (by decide : 100000 ≤ sizeLine)), ?_⟩
  exact h _ _ E ((S.mono (s1.trans s2)).turn hr rfl rfl ⟨e1, _, upd_same, (z.mono (hide_mono s2)).put (y.mono (hide_mono s2))⟩) kt
/-- list(d.items()) -/
def itemsD (kvs : List (Key × D)) : List D := kvs.map fun x => .tuple [kD x.1, x.2]
theorem rp_key {K : PySem.W.Frag} {H : Hp} (k : Key) : Rp K H (kV k) (kD k) := by
  cases k with
  | inl i => exact .int i
  | inr x => exact .str x
theorem items_go {K : PySem.W.Frag} {H1 H' G G' : Hp} (k1 : ∀ b o, H1 b = some o → H' b = some o) (_u : True → True) (fr : ∀ b, H1 b = none → ∀ ob, H' b = some ob → G' b = some ob) (gm : Same G G') :
    ∀ {ts : List Addr} {us : List (Key × V)} {kvs : List (Key × D)}, RpK K G us kvs → (∀ t ∈ ts, H1 t = none) → Paired (fun (t : Addr) (q : Key × V) => H' t = some (.tup [kV q.1, q.2])) ts us → RpA K G' (ts.map V.ref) (itemsD kvs)
  | _, _, _, .nil, _, .nil => .nil
  | _, _, _, .cons h a, hn, .cons p1 p2 => .cons (.tup (SqT.of (fr _ (hn _ List.mem_cons_self) _ p1)) (.cons (rp_key _) (.cons (h.mono gm) .nil))) (items_go k1 _u fr gm a (fun t ht => hn t (List.mem_cons_of_mem _ ht)) p2)
theorem evItems {pl apos cpos : Pos} (g : Go X W kk) (ho : EK X B o r kvs) (hm : X.mg "list" = none) (hg : Gl X "list" := by rfl) (hbase : attributeBase o "items" X.env (eval o X.env) = eval o X.env := by rfl) (hline : (apos.endLine == cpos.line) = true := by rfl)
    (hs : starEach [.Call (.Attribute o "items" apos) [] [] cpos] X.env = (false, eval (.Call (.Attribute o "items" apos) [] [] cpos) X.env) :: starEach [] X.env := by rfl) : EV X B (.Call (.Name "list" pl) [.Call (.Attribute o "items" apos) [] [] cpos] [] pos) r (.list (itemsD kvs)) := by
  obtain ⟨t, pt, kp⟩ := ho
  refine ⟨_, LiI.pe_listItems g.calm pt hg hm (by decide +kernel) hbase hline hs, fun H σ S Q q => kp H σ S _ fun a us H1 s1 y z => ⟨a, us, rfl, y, fun H' l ts k1 k2 k3 k4 k5 k6 => ?_⟩⟩
  have dom := (S.mono s1).dom
  have fr : ∀ b, H1 b = none → ∀ ob, H' b = some ob → hid B r H' b = some ob := fun b hb ob eb => by
    show hide H' (own r ++ B.ps) b = some ob
    rw [hide_out fun w => dom b w hb]; exact eb
  refine q _ H' (s1.trans (.of k1)) (.lst (SqL.of (fr l k2 _ k5)) ?_)
  exact items_go k1 (fun h => h) fr (hide_mono (.of k1)) z k3 k6
/-! ### slices -/
def EO (X : Cx) (B : Bx) (e : Option Expr) (r : List Sl) (o : Option Int) : Prop :=
  ∃ t, PO X e t ∧ ∀ H σ, SOk X.K B r H σ → ∀ Q : Option Int → Hp → Prop, (∀ H', Same H H' → Q o H') → t σ H Q
theorem eoN : EO X B none r none := ⟨_, po_none, fun H σ _ Q q => q H (Same.refl H)⟩
theorem eoS {i : Int} (h : EV X B e r (.int i)) : EO X B (some e) r (some i) := by
  obtain ⟨t, p, k⟩ := h
  exact ⟨_, po_some p, fun H σ S Q q => k H σ S _ fun v H1 s1 y => by cases y; exact ⟨i, rfl, q H1 s1⟩⟩
theorem evSlT {lo hi : Option Expr} {l u : Option Int} {p2 : Pos} (h : ES X B e r true ds) (hl : EO X B lo r l) (hu : EO X B hi r u) (hn : ¬ (HT.sIx ds.length 0 l = 0 ∧ HT.sIx ds.length ds.length u = ds.length)) : EV X B (.Subscript e (.Slice lo hi none p2) pos) r (.tuple (cutD ds l u)) := by
  obtain ⟨t, p, k⟩ := h
  obtain ⟨tl, pl, kl⟩ := hl
  obtain ⟨tu, pu, ku⟩ := hu
  refine ⟨_, pe_slice sl_tup p pl pu, fun H σ S Q q => k H σ S _ fun a vs H1 s1 y z => kl H1 σ (S.mono s1) _ fun H2 s2 => ku H2 σ (S.mono (s1.trans s2)) _ fun H3 s3 => ?_⟩
  have s23 := s2.trans s3
  refine ⟨a, vs, rfl, seqT s23 y, by rw [z.len]; exact hn, fun l' hl' => q _ _ ((s1.trans s23).trans (same_new hl')) (.tup (SqT.of (hide_new hl' (S.mono (s1.trans s23)).dom)) ?_)⟩
  exact (cut_same (z.mono (hide_mono s23)) _ _).mono (hide_mono (same_new hl'))
theorem evSlL {lo hi : Option Expr} {l u : Option Int} {p2 : Pos} (h : ES X B e r false ds) (hl : EO X B lo r l) (hu : EO X B hi r u) : EV X B (.Subscript e (.Slice lo hi none p2) pos) r (.list (cutD ds l u)) := by
  obtain ⟨t, p, k⟩ := h
  obtain ⟨tl, pl, kl⟩ := hl
  obtain ⟨tu, pu, ku⟩ := hu
  refine ⟨_, pe_slice sl_list p pl pu, fun H σ S Q q => k H σ S _ fun a vs H1 s1 y z => kl H1 σ (S.mono s1) _ fun H2 s2 => ku H2 σ (S.mono (s1.trans s2)) _ fun H3 s3 => ?_⟩
  have s23 := s2.trans s3
  refine ⟨a, vs, rfl, s23.seq y, fun l' hl' => q _ _ ((s1.trans s23).trans (same_new hl')) (.lst (SqL.of (hide_new hl' (S.mono (s1.trans s23)).dom)) ?_)⟩
  exact (cut_same (z.mono (hide_mono s23)) _ _).mono (hide_mono (same_new hl'))
/-- xs[::-1] -/
theorem evRev {n : Nat} {p1 p2 p3 : Pos} (h : ES X B e r false ds) : EV X B (.Subscript e (.Slice none none (some (.UnaryOp .USub (.Constant (.int 1) n p1) p2)) p3) pos) r (.list ds.reverse) := by
  obtain ⟨t, p, k⟩ := h
  exact ⟨_, pe_revL p, fun H σ S Q q => k H σ S _ fun a vs H1 s1 y z => ⟨a, vs, rfl, y, fun l' hl' => q _ _ (s1.trans (same_new hl')) (.lst (SqL.of (hide_new hl' (S.mono s1).dom)) ((z.rev).mono (hide_mono (same_new hl'))))⟩⟩
/-- -e -/
theorem evNeg {i : Int} (h : EV X B e r (.int i)) : EV X B (.UnaryOp .USub e pos) r (.int (-i)) := by
  obtain ⟨t, p, k⟩ := h
  exact ⟨_, pe_un un_neg p, fun H σ S Q q => k H σ S _ fun v H1 s1 y => by cases y; exact ⟨i, rfl, q _ H1 s1 (.int _)⟩⟩
end

/-! ### == at any depth -/
mutual
/-- data without dicts, at most n deep -/
inductive Shp : Nat → D → Prop
  | non {n : Nat} : Shp n .none
  | bl {n : Nat} {b : Bool} : Shp n (.bool b)
  | int {n : Nat} {i : Int} : Shp n (.int i)
  | str {n : Nat} {x : Str} : (PyData.str x).canLay0 = true → Shp n (.str x)
  | lst {n : Nat} {ds : List D} : ShpA n ds → Shp (n + 1) (.list ds)
  | tup {n : Nat} {ds : List D} : ShpA n ds → Shp (n + 1) (.tuple ds)
inductive ShpA : Nat → List D → Prop
  | nil {n : Nat} : ShpA n []
  | cons {n : Nat} {d : D} {ds : List D} : Shp n d → ShpA n ds → ShpA n (d :: ds)
end
mutual
theorem Shp.ok : ∀ {n : Nat} {d : D}, Shp n d → d.canLay0 = true ∧ d.depth ≤ n
  | _, _, .non => ⟨rfl, Nat.zero_le _⟩
  | _, _, .bl => ⟨rfl, Nat.zero_le _⟩
  | _, _, .int => ⟨rfl, Nat.zero_le _⟩
  | _, _, .str h => ⟨h, Nat.zero_le _⟩
  | _, _, .lst h => ⟨(ShpA.ok h).1, Nat.succ_le_succ (ShpA.ok h).2⟩
  | _, _, .tup h => ⟨(ShpA.ok h).1, Nat.succ_le_succ (ShpA.ok h).2⟩
theorem ShpA.ok : ∀ {n : Nat} {ds : List D}, ShpA n ds → PyData.canLayAll0 ds = true ∧ PyData.depthAll ds ≤ n
  | _, _, .nil => ⟨rfl, Nat.zero_le _⟩
  | _, _, .cons h a => ⟨Bool.and_eq_true_iff.mpr ⟨(Shp.ok h).1, (ShpA.ok a).1⟩, Nat.max_le.mpr ⟨(Shp.ok h).2, (ShpA.ok a).2⟩⟩
end
theorem ShpA.map {α : Type} {n : Nat} {f : α → D} (h : ∀ x, Shp n (f x)) : ∀ (l : List α), ShpA n (l.map f)
  | [] => .nil
  | _ :: l => .cons (h _) (ShpA.map h l)
theorem ShpA.mapM {α : Type} {n : Nat} {f : α → D} : ∀ (l : List α), (∀ x ∈ l, Shp n (f x)) → ShpA n (l.map f)
  | [], _ => .nil
  | _ :: l, h => .cons (h _ List.mem_cons_self) (ShpA.mapM l fun x hx => h x (List.mem_cons_of_mem _ hx))
theorem ShpA.app {n : Nat} : ∀ {a b : List D}, ShpA n a → ShpA n b → ShpA n (a ++ b)
  | _, _, .nil, h => h
  | _, _, .cons h a, b => .cons h (ShpA.app a b)
theorem Shp.shaped {d : D} (h : Shp 64 d) : SeqAt.shaped d = true := Bool.and_eq_true_iff.mpr ⟨h.ok.1, decide_eq_true h.ok.2⟩
mutual
theorem Rp.dp {K : PySem.W.Frag} {H : Hp} : ∀ {n : Nat} {v : V} {d : D}, Shp n d → Rp K H v d → Dp K H v d
  | _, _, _, .non, h => by cases h; exact .non
  | _, _, _, .bl, h => by cases h; exact .bl _
  | _, _, _, .int, h => by cases h; exact .int _
  | _, _, _, .str _, h => by cases h; exact .str _
  | _, _, _, .lst s, h => by
    cases h with
    | lst h a => exact .lst h (RpA.dp s a)
  | _, _, _, .tup s, h => by
    cases h with
    | tup h a => exact .tup h (RpA.dp s a)
theorem RpA.dp {K : PySem.W.Frag} {H : Hp} : ∀ {n : Nat} {vs : List V} {ds : List D}, ShpA n ds → RpA K H vs ds → DpAll K H vs ds
  | _, _, _, .nil, h => by cases h; exact .nil
  | _, _, _, .cons s t, h => by
    cases h with
    | cons h a => exact .cons (Rp.dp s h) (RpA.dp t a)
end
section
variable {X : Cx} {B : Bx} {W : WX} {P : Po} {r q : List Sl} {e a b o tg : Expr} {es : List Expr} {rest body orelse : List Stmt} {d dx dy : D} {ds : List D} {pos pos' p : Pos} {k kk : Nat}
theorem Go.un (g : Go X W kk) : X.A.units + 64 < cLine := g.hr.units
theorem cv_eqD (hu : X.A.units + 64 < cLine) (h1 : Shp 64 dx) (h2 : Shp 64 dy) : CV X .Eq dx dy (PyData.eqv dx dy) :=
  ⟨_, op_eqD hu, fun H x y rx ry Q q => ⟨dx, dy, rx.dp h1, ry.dp h2, h1.shaped, h2.shaped, q⟩⟩
theorem cv_neD (hu : X.A.units + 64 < cLine) (h1 : Shp 64 dx) (h2 : Shp 64 dy) : CV X .NotEq dx dy (!PyData.eqv dx dy) :=
  ⟨_, op_neD hu, fun H x y rx ry Q q => ⟨dx, dy, rx.dp h1, ry.dp h2, h1.shaped, h2.shaped, q⟩⟩
theorem eqv_same {n : Nat} (h : Shp n d) : PyData.eqv d d = true := SeqAt.eqv_refl d h.ok.1
/-! ### loops over a list or a tuple; targets of two names -/
def sqD : Bool → List D → D
  | true, ds => .tuple ds
  | false, ds => .list ds
theorem sv_forQ {tp : Bool} (I : Nat → List Sl → Prop) (tq : D → List Sl → List Sl) (g : Go X W k) (he : EV X B e r (sqD tp ds)) (ht : ∀ B (i : Nat) d r', ds[i]? = some d → GT X B tg r' d (tq d r')) (h0 : I 0 r)
    (hs : ∀ H1 (i : Nat) d r', ds[i]? = some d → I i r' → SV X ⟨H1, B.ps, B.ts, B.gr⟩ W body (tq d r') (P.loop (LN I (i + 1)) fun q => SV X B W rest q P)) (hd : ∀ r', I ds.length r' → SV X B W rest r' P)
    (hfs : ∀ x, foldedSetIterable e X.env x = pure x := by intro _; rfl) : SV X B W (.For tg e body [] pos :: rest) r P := by
  cases tp with
  | true => exact sv_forT I tq g he ht h0 hs hd hfs
  | false => exact sv_forL I tq g he ht h0 hs hd hfs
/-- what a pair does to two slots -/
def tq2 (i j : Nat) : D → List Sl → List Sl
  | .tuple [a, b], r => (r.set i (.im a)).set j (.im b)
  | _, r => r
theorem gt_pair (i j : Nat) {x y : Str} {px py : Pos} {n : Nat} (g : Go X W kk) (hd : ∃ a b, d = .tuple [a, b]) (hi : X.N[i]? = some x := by rfl) (hx : Loc X.env.scope x := by first | exact Or.inl rfl | exact Or.inr rfl) (hj : X.N[j]? = some y := by rfl) (hy : Loc X.env.scope y := by first | exact Or.inl rfl | exact Or.inr rfl)
    (hf : X.fn x = true ∨ X.env.scope.names.lookup x = some .local := by first | exact .inl rfl | exact .inr rfl) (hf2 : X.fn y = true ∨ X.env.scope.names.lookup y = some .local := by first | exact .inl rfl | exact .inr rfl)
    (hs : (assignEach [.Name x px, .Name y py] X.env).map (·.2) = assign (.Name x px) X.env :: (assignEach [.Name y py] X.env).map (·.2) := by rfl) (hs2 : (assignEach [.Name y py] X.env).map (·.2) = assign (.Name y py) X.env :: (assignEach [] X.env).map (·.2) := by rfl)
    (hn : (assignEach [.Name x px, .Name y py] X.env).length = 2 := by rfl) (hst : (assignEach [.Name x px, .Name y py] X.env).findIdx? (·.1) = none := by rfl) : GT X B (.Tuple [.Name x px, .Name y py] n pos) r d (tq2 i j d r) := by
  obtain ⟨a, b, rfl⟩ := hd
  exact gt_tup g.calm (gts_cons i g.nd (gts_cons j g.nd gts_nil hj hy hf2 hs2) hi hx hf hs) hn hst
end
end Tp

namespace Tp
open PySem L2

/-! ### own exceptions: raised, caught -/
abbrev vesB : List Value := [.type "ValueError", .type "Exception", .type "BaseException", .type "object"]
/-- what the top has written of the class called x, at C -/
structure XcT (K : PySem.W.Frag) (mg : Str → Option Value) (x : Str) (C : Addr) : Prop where
  gC : mg x = some (.ref C)
  kC : PySem.W.keepIn K (.ref C) = true
  ex : PySem.W.excIn K C vesB "ValueError.__new__" = true
  tC : PySem.W.typeIn K (.ref C) = some (.type "type")
  cl : ExcC K C
theorem XcT.raises {X : Cx} {x : Str} {C : Addr} (T : XcT X.K X.mg x C) : Raises X (.ref C) := raises_own T.cl.hs T.tC
theorem pmk_own0 {X : Cx} {C : Addr} {bmB : List Value} {B newId initId : String} {x : Str} {p pos : Pos} (F : ExcBaseFacts B newId initId bmB) (q : PySem.W.excIn X.K C bmB newId = true) (gC : X.mg x = some (.ref C)) (kC : PySem.W.keepIn X.K (.ref C) = true) (r : Raises X (.ref C)) (hg : Gl X x)
    (hdb : (x == ("__debug__" : Str)) = false := by decide) : PMk X (.Call (.Name x p) [] [] pos) (fun _ H Q => Q (.ref C) none H) := by
  intro pins s σ H Q I h
  refine wpAny_Call_Name_kw (ld_glob I hg gC ?_ hdb)
  refine PySem.W.callWith_K0 I.kIn kC ?_
  show wpAny _ _ (call (.ref C) []) _ _ _
  obtain ⟨bm, N, nm, qn, bs, hdct, sn, sub, ab, col, dd, k0, k1, k2, k3, k5, mN, hC, hN, hni, T⟩ := exc_obj I.kIn q
  refine wpAny_call_exc_subT F T hC hN hni (fun h' e hm => ?_) (by show 0 ≤ sizeLine; exact Nat.zero_le _)
  exact mk_of I hm r h (I.hok.gone hm.new)

section
variable {X : Cx} {B : Bx} {W : WX} {P : Po} {r q : List Sl} {e a b c tg : Expr} {es : List Expr} {rest body orelse : List Stmt} {st : Stmt} {d : D} {ds : List D} {pos pos' p : Pos} {k kk : Nat} {x : Str}
/-- raise C() -/
theorem sv_raise {C : Addr} (g : Go X W k) (T : XcT X.K X.mg x C) (h : P.ex C r) (hg : Gl X x := by rfl) (hdb : (x == ("__debug__" : Str)) = false := by decide) : SV X B W (.Raise (some (.Call (.Name x p) [] [] pos)) none pos' :: rest) r P :=
  fun H σ E S kt => ⟨_, pss_cons (ps_raise g.calm g.tk (pmk_own0 PySem.F.excBase_ValueError T.ex T.gC T.kC T.raises hg hdb)) wS_ok, kt.ex C r σ H S h⟩
/-- an expression that raises, for sure -/
def EX (X : Cx) (B : Bx) (W : WX) (e : Expr) (r : List Sl) (Ex : Addr → Prop) : Prop :=
  ∃ te, PE X e te ∧ ∀ H σ, SOk X.K B r H σ → ∀ Q : VK, (∀ C H', Same H H' → Ex C → W (.ref C) none σ H') → te σ H Q
theorem EC.exc {Ex : Addr → Prop} (h : EC X B W e r (fun _ => False) Ex) : EX X B W e r Ex := by
  obtain ⟨te, p, k⟩ := h
  exact ⟨te, p, fun H σ S Q q => k H σ S Q (fun _ _ _ _ _ _ _ z => z.elim) q⟩
theorem exAdd {Ex : Addr → Prop} (h : EX X B W a r Ex) : EX X B W (.BinOp a .Add b pos) r Ex := by
  obtain ⟨te, p, k⟩ := h
  exact ⟨_, pe_op op_add p (wE_ok (e := b)), fun H σ S Q q => k H σ S _ q⟩
theorem sv_retX {Ex : Addr → Prop} (he : EX X B W e r Ex) (h : ∀ C, Ex C → P.ex C r) : SV X B W (.Return (some e) pos :: rest) r P := fun H σ E S kt => by
  obtain ⟨te, p, q⟩ := he
  exact ⟨_, pss_cons (ps_ret p) wS_ok, q H σ S _ fun C H1 s1 y => kt.ex C r σ H1 (S.mono s1) (h C y)⟩
theorem sv_dropX {Ex : Addr → Prop} (he : EX X B W e r Ex) (h : ∀ C, Ex C → P.ex C r) (hs : swapsWith e none pos.line X.env = pure false := by rfl) : SV X B W (.Expr e pos :: rest) r P := fun H σ E S kt => by
  obtain ⟨te, p, q⟩ := he
  exact ⟨_, pss_cons (ps_expr p hs) wS_ok, q H σ S _ fun C H1 s1 y => kt.ex C r σ H1 (S.mono s1) (h C y)⟩
end

/-! ### try: several clauses, with names or without -/
abbrev Hd := Value × Option Nat × (Addr → Value → Option Addr → TS)
def wMix (K : PySem.W.Frag) (Wout : WX) (D : Ends) : List Hd → WX
  | [] => Wout
  | (c, none, ts) :: r => fun cls d σ H => ∃ b, PySem.W.exmOne K cls c = some b ∧ (b = true → ∀ a, H a = none → ts a cls d D σ H) ∧ (b = false → wMix K Wout D r cls d σ H)
  | (c, some i, ts) :: r => fun cls d σ H => ∃ b, PySem.W.exmOne K cls c = some b ∧ (b = true → ∀ a, H a = none → ts a cls d { nx := fun σ' H' => D.nx (σ'.set i none) H', rt := D.rt, bk := fun σ' H' => D.bk (σ'.set i none) H', ct := fun σ' H' => D.ct (σ'.set i none) H' } (σ.set i (some (.ref a))) H) ∧ (b = false → wMix K Wout D r cls d σ H)
inductive HdsM (X : Cx) : List ExceptHandler → List Hd → Prop
  | nil : HdsM X [] []
  | cons {x : Str} {c : Value} {ts : Addr → Value → Option Addr → TS} {b₀ : Stmt} {suite : List Stmt} {np pos' : Pos} {hds : List ExceptHandler} {l : List Hd} (hc : Names X x c)
      (hsu : ∀ (a : Addr) (oe : Obj) (cls : Value) (d : Option Addr) (pn : List (Addr × Obj)), Zc cls d oe → (∃ vs, oe.data = .fields vs) → PSs (X.suite a ((a, oe) :: pn)) (b₀ :: suite) (ts a cls d)) (r : HdsM X hds l) :
      HdsM X (.ExceptHandler (some (.Name x np)) none (b₀ :: suite) pos' :: hds) ((c, none, ts) :: l)
  | named {i : Nat} {x n : Str} {c : Value} {ts : Addr → Value → Option Addr → TS} {b₀ : Stmt} {suite : List Stmt} {np pos' : Pos} {hds : List ExceptHandler} {l : List Hd} (hi : X.N[i]? = some n) (hln : X.env.kindOf n = some .local) (hc : Names X x c)
      (hsu : ∀ (a : Addr) (oe : Obj) (cls : Value) (d : Option Addr) (pn : List (Addr × Obj)), Zc cls d oe → (∃ vs, oe.data = .fields vs) → PSs (X.suite a ((a, oe) :: pn)) (b₀ :: suite) (ts a cls d)) (r : HdsM X hds l) :
      HdsM X (.ExceptHandler (some (.Name x np)) (some n) (b₀ :: suite) pos' :: hds) ((c, some i, ts) :: l)
section
variable {X : Cx} {body : List Stmt} {h₀ : ExceptHandler} {hds : List ExceptHandler} {l : List Hd} {pos : Pos} {tb : WX → TS} {Wout : WX}
theorem ps_try_mix (hs : X.stack = X.env :: X.outer) (hf : X.env.frame = some X.env.locals) (hN : X.N.Nodup) (tk : Takes X Wout)
    (hb : ∀ (W : WX) (pn : List (Addr × Obj)) (xe : Value → Shared → Prop), Takes (X.tr pn xe) W → PassesOwn (model X.prog X.w) X.A X.env xe → PSs (X.tr pn xe) body (tb W))
    (hh : HdsM X (h₀ :: hds) l) : PS X (.Try body (h₀ :: hds) [] [] pos) (fun D σ H => tb (wMix X.K Wout D l) D σ H) := by
  refine ⟨fun pins s σ H D I h => ?_⟩
  have ok := I.ok
  have hfr : X.A.frames = some (X.env :: X.outer) := by rw [ok.frames, hs]
  refine wpAny_Try_except ?_
  refine wpAny_mono ((hb (wMix X.K Wout D l) (X.pn ++ pins) (fun e s₁ => wpAny (model X.prog X.w) X.A (noteFrame e X.env) (fun _ s₂ => wpAny (model X.prog X.w) X.A (setFlight e none) (fun _ s₃ =>
    wpAny (model X.prog X.w) X.A (handleBy e X.env (h₀ :: hds)) (SP X pins D) X.xe s₃) X.xe s₂) X.xe s₁) (fun u s' xx => ?_) PassesOwn.looking).run [] s σ H D (I.toTry _) h) (fun f s1 hsp => ?_) (fun e s1 he => he)
  · -- the catch
    obtain ⟨a, B, sI, pins', σ', H', cls, d, rfl, J', nb, up, sky, na, os, ag, w⟩ := xx
    have J : Inv X pins σ' H' sI := J'.ofTry ok
    have sky' : Sky B (X.env :: X.outer) a (Zc cls d) X.env.locals s'.heap := by rw [← hs]; exact sky
    show wpAny (model X.prog X.w) X.A (noteFrame (.ref a) X.env) _ _ _
    refine Sky.land Zc.steady hfr hf sky' fun h3 fl3 up3 => ?_
    have J3 : Inv X pins σ' H' { s' with heap := h3 } := J.landed nb fl3.1 (up.trans up3) os ag
    obtain ⟨oe3, vs3, he3, hz3, hd3⟩ := fl3.there
    have notFr : ∀ {h : Heap} {o : Obj} {vs : Array Value}, h.FunFrames B (X.env :: X.outer) → h.get? a = some o → o.data = .fields vs → a ∉ frs (X.env :: X.outer) := fun {h o vs} ff e dd hm => by
      obtain ⟨_, o', e', hnf⟩ := ff.mem hm
      rw [e] at e'; cases e'
      exact hnf _ dd
    have nfr := notFr fl3.2.2.1 he3 hd3
    have nL : a ≠ X.env.locals := fun z => nfr (List.mem_filterMap.mpr ⟨X.env, List.mem_cons_self, by rw [hf, z]⟩)
    have nF : a ∉ X.fs := fun hm => by
      obtain ⟨e, he, q⟩ := List.mem_filterMap.mp hm
      exact nfr (List.mem_filterMap.mpr ⟨e, List.mem_cons_of_mem _ he, q⟩)
    have S3 := J3.suite he3 hd3 na nL nF
    have go : ∀ {hds' : List ExceptHandler} {l' : List Hd}, HdsM X hds' l' → wMix X.K Wout D l' cls d σ' H' →
        wpAny (model X.prog X.w) X.A (handleBy (.ref a) X.env hds') (SP X pins D) X.xe { s' with heap := h3 } := by
      intro hds' l' hk
      induction hk with
      | nil =>
        intro w
        refine wpAny_handleBy_nil ?_
        obtain ⟨k1, k2, k3, oe, vs, T, oT, ts', he, hz, hd, h1, hr⟩ := id fl3
        unfold PySem.passOn
        refine wpAny_bind (wpAny_field he hd h1 ?_)
        rw [if_neg (show ¬ ((Value.ref T == Value.none) = true) from by simp)]
        have fin : wpAny (model X.prog X.w) X.A (setFlight (.ref a) X.env.frame) (fun _ s4 => wpAny (model X.prog X.w) X.A (throw (.ref a) : Sem Flow) (SP X pins D) X.xe s4) X.xe { s' with heap := h3 } := by
          rw [hf]
          refine HandSPX.setFlight_upZ fl3 fun h4 hh4 up4 => wpAny_throw (tk _ _ ?_)
          exact ⟨a, B, sI, pins, σ', H', cls, d, rfl, J, nb, (up.trans up3).trans up4, .inr (.inr (by rw [hs]; exact hh4)), na, os, ag, w⟩
        first
          | exact wpAny_bind (wpAny_pure (wpAny_bind fin))
          | exact wpAny_bind fin
      | @cons x c ts b₀ suite np pos' hds2 l2 hc hsu r ih =>
        intro w
        obtain ⟨b, hb1, hyes, hno⟩ := w
        refine wpAny_handleBy_cons (codeAny_handlers_test ?_) (by intro q; cases q)
        have LT : PySem.W.Looks (model X.prog X.w) h3 (typeOf (.ref a)) cls := fun A Q E s k q => wpAny_typeOf_ref (k _ _ he3) (by rw [hz3.1]; exact q)
        have LM := PySem.W.exm_one (M := model X.prog X.w) (J3.kIn) LT hb1
        have test : ∀ {Q : Value → Shared → Prop} {E : Value → Shared → Prop}, Q c { s' with heap := h3 } → wpAny (model X.prog X.w) (X.A.mark (some (.ref a))) (eval (.Name x np) X.env) Q E { s' with heap := h3 } := fun {Q E} q => by
          obtain ⟨hg, hdbg, hm | ⟨hm, hv, hnn⟩⟩ := hc
          · exact ld_glob (X := X.suite a ((a, oe3) :: (X.pn ++ pins))) S3 hg hm q hdbg
          · exact ld_blt (X := X.suite a ((a, oe3) :: (X.pn ++ pins))) S3 hg hm hv q hnn hdbg
        refine test (LM.here ?_)
        cases b with
        | true =>
          refine codeAny_handlers_suite ?_
          refine HandSPX.lands_againZ fl3 fun h4 fl4 up4 => ?_
          have J4 : Inv X pins σ' H' { s' with heap := h4 } := J.landed nb fl4.1 ((up.trans up3).trans up4) os ag
          obtain ⟨oe4, vs4, he4, hz4, hd4⟩ := fl4.there
          have S4 := J4.suite he4 hd4 na nL nF
          refine wpAny_mono ((hsu a oe4 cls d (X.pn ++ pins) hz4 ⟨_, hd4⟩).run [] _ _ H' _ S4 (hyes rfl a na)) (fun f s6 hsp => ?_) (fun _ _ z => False.elim z)
          cases f with
          | next =>
            obtain ⟨σ6, H6, S6, q6⟩ := hsp
            exact ⟨_, _, S6.unsuite ok, q6⟩
          | brk =>
            obtain ⟨σ6, H6, S6, q6⟩ := hsp
            exact ⟨_, _, S6.unsuite ok, q6⟩
          | cont =>
            obtain ⟨σ6, H6, S6, q6⟩ := hsp
            exact ⟨_, _, S6.unsuite ok, q6⟩
          | ret u =>
            obtain ⟨v6, σ6, H6, S6, r6, q6⟩ := hsp
            exact ⟨_, _, _, S6.unsuite ok, r6, q6⟩
        | false =>
          show wpAny _ X.A (handleBy (.ref a) X.env hds2) _ _ _
          exact ih (hno rfl)
      | @named i x n c ts b₀ suite np pos' hds2 l2 hi hln hc hsu r ih =>
        intro w
        have hloc : Loc X.env.scope n := .inl hln
        obtain ⟨b, hb1, hyes, hno⟩ := w
        refine wpAny_handleBy_cons (codeAny_handlers_test ?_) (by intro q; cases q)
        have LT : PySem.W.Looks (model X.prog X.w) h3 (typeOf (.ref a)) cls := fun A Q E s k q => wpAny_typeOf_ref (k _ _ he3) (by rw [hz3.1]; exact q)
        have LM := PySem.W.exm_one (M := model X.prog X.w) (J3.kIn) LT hb1
        have test : ∀ {Q : Value → Shared → Prop} {E : Value → Shared → Prop}, Q c { s' with heap := h3 } → wpAny (model X.prog X.w) (X.A.mark (some (.ref a))) (eval (.Name x np) X.env) Q E { s' with heap := h3 } := fun {Q E} q => by
          obtain ⟨hg, hdbg, hm | ⟨hm, hv, hnn⟩⟩ := hc
          · exact ld_glob (X := X.suite a ((a, oe3) :: (X.pn ++ pins))) S3 hg hm q hdbg
          · exact ld_blt (X := X.suite a ((a, oe3) :: (X.pn ++ pins))) S3 hg hm hv q hnn hdbg
        refine test (LM.here ?_)
        cases b with
        | true =>
          refine codeAny_handlers_suite_as ?_
          refine HandSPX.lands_againZ fl3 fun h4 fl4 up4 => ?_
          have J4 : Inv X pins σ' H' { s' with heap := h4 } := J.landed nb fl4.1 ((up.trans up3).trans up4) os ag
          obtain ⟨oe4, vs4, he4, hz4, hd4⟩ := fl4.there
          have S4 := J4.suite he4 hd4 na nL nF
          refine store_ok (X := X.suite a ((a, oe4) :: (X.pn ++ pins))) (v := .ref a) S4 hN hi hloc rfl (fun s5 S5 => ?_) (.inr hln)
          refine wpAny_mono ((hsu a oe4 cls d (X.pn ++ pins) hz4 ⟨_, hd4⟩).run [] s5 _ H' _ S5 (hyes rfl a na)) (fun f s6 hsp => ?_) (fun _ _ z => False.elim z)
          have end_ : ∀ {σ6 : St} {H6 : Hp} {Q : Shared → Prop}, Inv (X.suite a ((a, oe4) :: (X.pn ++ pins))) [] σ6 H6 s6 → (∀ s7, Inv X pins (σ6.set i none) H6 s7 → Q s7) →
              wpAny (model X.prog X.w) X.A (do bindName X.env n .none; unbindBehindTheSuite X.env n pos') (fun _ s7 => Q s7) X.xe s6 := fun {σ6 H6 Q} S6 hq => gone_ok (S6.unsuite ok) hN hi hln hq
          cases f with
          | next =>
            obtain ⟨σ6, H6, S6, q6⟩ := hsp
            exact end_ S6 fun s7 J7 => ⟨_, _, J7, q6⟩
          | brk =>
            obtain ⟨σ6, H6, S6, q6⟩ := hsp
            exact end_ S6 fun s7 J7 => ⟨_, _, J7, q6⟩
          | cont =>
            obtain ⟨σ6, H6, S6, q6⟩ := hsp
            exact end_ S6 fun s7 J7 => ⟨_, _, J7, q6⟩
          | ret u =>
            obtain ⟨v6, σ6, H6, S6, r6, q6⟩ := hsp
            exact end_ S6 fun s7 J7 => ⟨_, _, _, J7, r6, q6⟩
        | false =>
          show wpAny _ X.A (handleBy (.ref a) X.env hds2) _ _ _
          exact ih (hno rfl)
    exact go hh w
  · cases f with
    | next =>
      obtain ⟨σ', H', J', q⟩ := hsp
      exact wpAny_execs_nil ⟨σ', H', J'.ofTry ok, q⟩
    | brk =>
      obtain ⟨σ', H', J', q⟩ := hsp
      exact ⟨σ', H', J'.ofTry ok, q⟩
    | cont =>
      obtain ⟨σ', H', J', q⟩ := hsp
      exact ⟨σ', H', J'.ofTry ok, q⟩
    | ret u =>
      obtain ⟨v, σ', H', J', r, q⟩ := hsp
      exact ⟨v, σ', H', J'.ofTry ok, r, q⟩
end

/-! ### the clauses, over data -/
/-- a suite's context -/
def SuOk (C : Addr) (oe : Obj) : Prop := Zc (.ref C) none oe ∧ ∃ vs, oe.data = .fields vs
abbrev W0 : WX := fun _ _ _ _ => False
/-- what a suite is to do, the exception's slot (if named) i -/
def Su (X : Cx) (B : Bx) (W : WX) (rest : List Stmt) (P : Po) (suite : List Stmt) (oi : Option Nat) (C : Addr) (r : List Sl) : Prop :=
  ∀ a oe pn, SuOk C oe → SV (X.suite a ((a, oe) :: pn)) B W0 suite (match oi with | some i => r.set i (.rf a) | none => r)
    { nx := fun r' => SV X B W rest (match oi with | some i => r'.set i .no | none => r') P, rt := P.rt, bk := fun r' => P.bk (match oi with | some i => r'.set i .no | none => r'), ct := fun r' => P.ct (match oi with | some i => r'.set i .no | none => r') }
abbrev Hs := Value × Option Nat × List Stmt
/-- what becomes of an exception of the class at C -/
def hx (X : Cx) (B : Bx) (W : WX) (rest : List Stmt) (P : Po) : List Hs → Addr → List Sl → Prop
  | [], C, r => P.ex C r
  | (c, oi, su) :: l, C, r => (PySem.W.exmOne X.K (.ref C) c = some true ∧ Su X B W rest P su oi C r) ∨ (PySem.W.exmOne X.K (.ref C) c = some false ∧ hx X B W rest P l C r)
inductive HdsD (X : Cx) : List ExceptHandler → List Hs → Prop
  | nil : HdsD X [] []
  | cons {x : Str} {c : Value} {b₀ : Stmt} {suite : List Stmt} {np pos' : Pos} {hds : List ExceptHandler} {l : List Hs} (hc : Names X x c) (r : HdsD X hds l) :
      HdsD X (.ExceptHandler (some (.Name x np)) none (b₀ :: suite) pos' :: hds) ((c, none, b₀ :: suite) :: l)
  | named {i : Nat} {x n : Str} {c : Value} {b₀ : Stmt} {suite : List Stmt} {np pos' : Pos} {hds : List ExceptHandler} {l : List Hs} (hi : X.N[i]? = some n) (hln : X.env.kindOf n = some .local) (hc : Names X x c) (r : HdsD X hds l) :
      HdsD X (.ExceptHandler (some (.Name x np)) (some n) (b₀ :: suite) pos' :: hds) ((c, some i, b₀ :: suite) :: l)
/-- the widest reading of a suite -/
def wSu (X : Cx) (suite : List Stmt) : Addr → Value → Option Addr → TS := fun a cls d E σ H => ∀ oe pn, Zc cls d oe → (∃ vs, oe.data = .fields vs) → wS (X.suite a ((a, oe) :: pn)) suite E σ H
theorem wSu_ok {X : Cx} {suite : List Stmt} {a : Addr} {oe : Obj} {cls : Value} {d : Option Addr} {pn : List (Addr × Obj)} (h1 : Zc cls d oe) (h2 : ∃ vs, oe.data = .fields vs) : PSs (X.suite a ((a, oe) :: pn)) suite (wSu X suite a cls d) :=
  ⟨fun pins s σ H E I h => (wS_ok (X := X.suite a ((a, oe) :: pn)) (sts := suite)).run pins s σ H E I (h oe pn h1 h2)⟩
def hsT (X : Cx) : List Hs → List Hd
  | [] => []
  | (c, oi, su) :: l => (c, oi, wSu X su) :: hsT X l
theorem HdsD.m {X : Cx} {hds : List ExceptHandler} {l : List Hs} (h : HdsD X hds l) : HdsM X hds (hsT X l) := by
  induction h with
  | nil => exact .nil
  | cons hc r ih => exact .cons hc (fun a oe cls d pn h1 h2 => wSu_ok h1 h2) ih
  | named hi hln hc r ih => exact .named hi hln hc (fun a oe cls d pn h1 h2 => wSu_ok h1 h2) ih
section
variable {X : Cx} {B : Bx} {W : WX} {P : Po} {r q : List Sl} {e a b c tg : Expr} {es : List Expr} {rest body orelse : List Stmt} {st : Stmt} {d : D} {ds : List D} {pos pos' p : Pos} {k kk : Nat} {x : Str} {h₀ : ExceptHandler} {hds : List ExceptHandler} {l : List Hs}
theorem hx_w {E : Ends} (kt : Kt X B W P E) : ∀ {l : List Hs} {C : Addr} {r : List Sl} {σ : St} {H : Hp}, SOk X.K B r H σ → hx X B W rest P l C r → wMix X.K W { E with nx := wS X rest E } (hsT X l) (.ref C) none σ H
  | [], C, r, σ, H, S, h => kt.ex C r σ H S h
  | (c, none, su) :: l, C, r, σ, H, S, h => by
    rcases h with ⟨h1, h2⟩ | ⟨h1, h2⟩
    · refine ⟨true, h1, fun _ a ha oe pn z1 z2 => ?_, fun z => nomatch z⟩
      exact h2 a oe pn ⟨z1, z2⟩ H σ _ S ⟨fun r' σ' H' S' hr => hr H' σ' E S' kt, kt.rt, kt.bk, kt.ct, fun _ _ _ _ _ z => z.elim⟩
    · exact ⟨false, h1, fun z => (nomatch z), fun _ => hx_w kt S h2⟩
  | (c, some i, su) :: l, C, r, σ, H, S, h => by
    rcases h with ⟨h1, h2⟩ | ⟨h1, h2⟩
    · refine ⟨true, h1, fun _ a ha oe pn z1 z2 => ?_, fun z => nomatch z⟩
      exact h2 a oe pn ⟨z1, z2⟩ H (σ.set i (some (.ref a))) _ (S.set (s := .rf a) rfl rfl) ⟨fun r' σ' H' S' hr => hr H' (σ'.set i none) E S'.setNo kt, kt.rt, fun r' σ' H' S' hr => kt.bk _ _ _ S'.setNo hr, fun r' σ' H' S' hr => kt.ct _ _ _ S'.setNo hr, fun _ _ _ _ _ z => z.elim⟩
    · exact ⟨false, h1, fun z => (nomatch z), fun _ => hx_w kt S h2⟩
theorem sv_try (g : Go X W k) (hb : ∀ pn xe W', Go (X.tr pn xe) W' k → SV (X.tr pn xe) B W' body r { nx := fun r' => SV X B W rest r' P, rt := P.rt, bk := P.bk, ct := P.ct, ex := hx X B W rest P l }) (hh : HdsD X (h₀ :: hds) l) (stk : X.stack = X.env :: X.outer := by rfl) (frm : X.env.frame = some X.env.locals := by rfl) : SV X B W (.Try body (h₀ :: hds) [] [] pos :: rest) r P := fun H σ E S kt => by
  refine ⟨_, pss_cons (ps_try_mix (tb := fun W' E σ H => ∀ pn xe, Takes (X.tr pn xe) W' → PassesOwn (model X.prog X.w) X.A X.env xe → wS (X.tr pn xe) body E σ H) stk frm g.nd g.tk (fun W' pn xe t p => ⟨fun pins s σ H E I h => wS_ok.run pins s σ H E I (h pn xe t p)⟩) hh.m) wS_ok, fun pn xe t p => ?_⟩
  refine hb pn xe _ ⟨g.hr, g.calm, p, t, g.nd⟩ H σ _ S ⟨fun r' σ' H' S' hr => hr H' σ' E S' kt, kt.rt, kt.bk, kt.ct, fun C r' σ' H' S' hr => hx_w kt S' hr⟩
/-- a Name that refers to a -/
theorem esRf (i : Nat) {a : Addr} (h : r[i]? = some (.rf a)) (hN : X.N[i]? = some x := by rfl) (hv : Vis X.env.scope x := by first | exact Or.inl rfl | exact Or.inr (Or.inl rfl) | exact Or.inr (Or.inr rfl)) (hd : (x == ("__debug__" : Str)) = false := by decide) (hcd : (x == ("__classdict__" : Str)) = false := by decide) :
    ∃ te, PE X (.Name x pos) te ∧ ∀ H σ, SOk X.K B r H σ → ∀ Q : VK, Q (.ref a) H → te σ H Q :=
  ⟨_, pe_var hN hv hd hcd, fun H σ S Q q => ⟨_, S.sl i _ h, q⟩⟩
/-- isinstance(e, D), e the exception of the suite -/
theorem evIsX {C Dc : Addr} {a : Addr} {oe : Obj} {pn : List (Addr × Obj)} {n y : Str} {k : Bool} {p p1 p2 : Pos} (i : Nat) (hs : SuOk C oe) (hr : r[i]? = some (.rf a)) (TC : ExcC X.K C) (gD : X.mg y = some (.ref Dc)) (hk : PySem.W.kitOne X.K (.ref C) (.ref Dc) = some k) (hm : X.mg "isinstance" = none) (hgD : Gl X y := by rfl) (hg : Gl X "isinstance" := by rfl)
    (hN : X.N[i]? = some n := by rfl) (hv : Vis X.env.scope n := by first | exact Or.inl rfl | exact Or.inr (Or.inl rfl) | exact Or.inr (Or.inr rfl)) (hd : (n == ("__debug__" : Str)) = false := by decide) (hcd : (n == ("__classdict__" : Str)) = false := by decide) (hdy : (y == ("__debug__" : Str)) = false := by decide)
    (hst : NSt X (.Name n p1) := by exact fun _ => rfl) (hst2 : NSt X (.Name y p2) := by exact fun _ => rfl) : EV (X.suite a ((a, oe) :: pn)) B (.Call (.Name "isinstance" p) [.Name n p1, .Name y p2] [] pos) r (.bool k) := by
  obtain ⟨te, pp, kk⟩ := esRf (X := X.suite a ((a, oe) :: pn)) (B := B) (pos := p1) i hr hN hv hd hcd
  refine ⟨_, pe_callB (X := X.suite a ((a, oe) :: pn)) (call_isE TC hs.1 hs.2) hg hm (by decide +kernel) (pa_cons pp (pa_cons (pe_glob (X := X.suite a ((a, oe) :: pn)) (v := .ref Dc) hgD gD rfl hdy) pa_nil (hst2 _)) (hst _)) (he := hst _) (hpl := by rw [hst2]; rfl), fun H σ S Q q => kk H σ S _ ?_⟩
  exact ⟨.ref Dc, .ref Dc, k, rfl, fun u ru => ru, hk, q _ H (Same.refl H) (.bl k)⟩
end
end Tp
namespace Tp
open PySem L2
section
variable {K : PySem.W.Frag} {mg : Str → Option Value} {x y : Str} {C Dc : Addr} {b : Bool}
theorem XcT.exm (TD : XcT K mg y Dc) (h : PySem.W.subIn K (.ref C) (.ref Dc) = some b) : PySem.W.exmOne K (.ref C) (.ref Dc) = some b := PySem.W.exm_ref TD.cl.hs TD.cl.hd TD.tC h
theorem XcT.kit (TD : XcT K mg y Dc) (h0 : PySem.W.subIn K (.ref C) (.ref C) = some true) (h : PySem.W.subIn K (.ref C) (.ref Dc) = some b) : PySem.W.kitOne K (.ref C) (.ref Dc) = some b := by
  unfold PySem.W.kitOne
  split
  · rename_i q
    have e : C = Dc := Value.ref.inj (beq_iff_eq.mp q)
    subst e
    exact h0.symm.trans h
  · obtain ⟨cd, hc, _⟩ := PySem.W.any_some TD.cl.hd
    show (if ((PySem.W.clsIn K Dc).isSome && PySem.W.typeIn K (.ref Dc) == some (.type "type")) = true then PySem.W.subIn K (.ref C) (.ref Dc) else none) = some b
    rw [if_pos (by rw [hc, TD.tC] <;> rfl)]
    exact h
end
end Tp
namespace Tp
open PySem L2
section
variable {X : Cx} {B : Bx} {W : WX} {P : Po} {r q : List Sl} {e : Expr} {rest : List Stmt} {pos pos' : Pos} {k : Nat}
theorem sv_brk (h : P.bk r) : SV X B W (.Break pos :: rest) r P := fun H σ E S kt => ⟨_, pss_cons ps_break wS_ok, kt.bk r σ H S h⟩
theorem sv_cont (h : P.ct r) : SV X B W (.Continue pos :: rest) r P := fun H σ E S kt => ⟨_, pss_cons ps_continue wS_ok, kt.ct r σ H S h⟩
theorem loop_ct {I : Nat → List Sl → Prop} {i : Nat} {q q' : List Sl} {bk : List Sl → Prop} (w : Wk q q') (h : I i q') : (P.loop (LN I i) bk).ct q := ⟨q', w, h⟩
theorem sv_asgX (i : Nat) {x : Str} {Ex : Addr → Prop} (g : Go X W k) (he : EX X B W e r Ex) (h : ∀ C, Ex C → P.ex C r) (hi : X.N[i]? = some x := by rfl) (hx : Loc X.env.scope x := by first | exact Or.inl rfl | exact Or.inr rfl)
    (hs : swapsWith e (some (.Name x pos')) pos.line X.env = pure false := by rfl) (hf : X.fn x = true ∨ X.env.scope.names.lookup x = some .local := by first | exact .inl rfl | exact .inr rfl) : SV X B W (.Assign [.Name x pos'] e pos :: rest) r P := fun H σ E S kt => by
  obtain ⟨te, p, q⟩ := he
  exact ⟨_, pss_cons (ps_set g.nd hi hx p hs hf) wS_ok, q H σ S _ fun C H1 s1 y => kt.ex C r σ H1 (S.mono s1) (h C y)⟩
end
end Tp

namespace Tp
open PySem L2
section
variable {X : Cx} {B : Bx} {W : WX} {P : Po} {r q : List Sl} {e a b c o tg : Expr} {es : List Expr} {rest body orelse : List Stmt} {st : Stmt} {d : D} {ds : List D} {pos pos' p : Pos} {k kk : Nat} {x : Str}
/-! known tests -/
theorem sv_ifT {k : Bool} (hc : ET X B c r k) (h : SV X B W body r (P.then fun r' => SV X B W rest r' P)) (hk : k = true := by rfl) : SV X B W (.If c body orelse pos :: rest) r P := sv_if hc (fun _ => h) fun z => by rw [hk] at z; cases z
theorem sv_ifF {k : Bool} (hc : ET X B c r k) (h : SV X B W orelse r (P.then fun r' => SV X B W rest r' P)) (hk : k = false := by rfl) : SV X B W (.If c body orelse pos :: rest) r P := sv_if hc (fun z => by rw [hk] at z; cases z) fun _ => h
theorem ixN_D {n : Nat} {j : Int} (h0 : 0 ≤ j) (h1 : j < n) : ixN n j = some j.toNat := by
  unfold ixN
  rw [if_pos h0, if_pos h1]
/-- x[i] = e, x an owned list -/
theorem sv_set (i : Nat) {l : Addr} {j : Int} {n : Nat} {px pp' : Pos} (hr : r[i]? = some (.ol l ds)) (he : EV X B e r d) (hk : EV X B b r (.int j)) (hj : ixN ds.length j = some n) (h : SV X B W rest (r.set i (.ol l (ds.set n d))) P) (hN : X.N[i]? = some x := by rfl) (hv : Vis X.env.scope x := by first | exact Or.inl rfl | exact Or.inr (Or.inl rfl) | exact Or.inr (Or.inr rfl)) (hd : (x == ("__debug__" : Str)) = false := by decide)
    (hcd : (x == ("__classdict__" : Str)) = false := by decide) (hs : swapsWithSole [.Subscript (.Name x px) b pp'] e pos.line X.env = pure false := by rfl) (hw : swappedStores [.Subscript (.Name x px) b pp'] e X.env = pure none := by rfl) (h1 : (assignEach [.Subscript (.Name x px) b pp'] X.env).map (·.2) = [assign (.Subscript (.Name x px) b pp') X.env] := by rfl)
    (ha : ∀ v, assign (.Subscript (.Name x px) b pp') X.env v = (do
      let ov ← holding [v] (eval (.Name x px) X.env)
      let iv ← holding [v, ov] (eval b X.env)
      standAt pp'
      holding [v, ov, iv] (setItem ov iv v)
      release [v, ov, iv] []) := by intro _; rfl) : SV X B W (.Assign [.Subscript (.Name x px) b pp'] e pos :: rest) r P := fun H σ E S kt => by
  obtain ⟨t, pt, kp⟩ := he
  obtain ⟨t', pt', kp'⟩ := hk
  refine ⟨_, pss_cons (ps_asg pt (pg_sub (pe_var hN hv hd hcd) pt' set_list ha) hs hw h1) wS_ok, kp H σ S _ fun v H1 s1 y => ?_⟩
  obtain ⟨e1, us, y1, z⟩ := (S.mono s1).sl i _ hr
  refine ⟨_, e1, kp' H1 σ (S.mono s1) _ fun w H2 s2 u => ?_⟩
  cases u
  have y2 : H2 l = some (.lst us) := s2.k y1
  refine ⟨l, us, j, n, rfl, rfl, y2, by rw [z.len]; exact hj, ?_⟩
  exact h _ _ E ((S.mono (s1.trans s2)).turn hr rfl rfl ⟨e1, _, upd_same, (z.mono (hide_mono s2)).set n (y.mono (hide_mono s2))⟩) kt
/-- [e, ..] + x, x an owned list: a new owned list -/
theorem enCat (i : Nat) {l : Addr} {ds2 : List D} {p1 p2 : Pos} (h : EA X B es r ds) (hr : r[i]? = some (.ol l ds2)) (hl : ds.length + ds2.length ≤ 100000) (hN : X.N[i]? = some x := by rfl) (hv : Vis X.env.scope x := by first | exact Or.inl rfl | exact Or.inr (Or.inl rfl) | exact Or.inr (Or.inr rfl)) (hd : (x == ("__debug__" : Str)) = false := by decide)
    (hcd : (x == ("__classdict__" : Str)) = false := by decide) : EN X B (.BinOp (.List es p1) .Add (.Name x p2) pos) r (fun p => .ol p (ds ++ ds2)) := by
  obtain ⟨t, pp, kt⟩ := h
  refine ⟨_, pe_op op_cat (pe_lst pp) (pe_var hN hv hd hcd), fun H σ S Q g => kt H σ S _ fun vs H1 s1 y => ⟨by rw [y.len]; exact line_of (by omega), fun p hp => ?_⟩⟩
  obtain ⟨e1, us, y1, z⟩ := (S.mono s1).sl i _ hr
  have np : l ≠ p := ne_of_none y1 hp
  refine ⟨_, e1, p, l, vs, us, rfl, rfl, upd_same, by rw [upd_ne np]; exact y1, by rw [y.len, z.len]; exact line_of hl, fun l' hl' => ?_⟩
  have s2 := same_new (o := .lst vs) hp
  exact g l' _ _ (s1.trans s2) hl' rfl ⟨rfl, _, upd_same, (y.mono (hide_mono s2)).app (z.mono (hide_mono s2))⟩
/-! ### reversed -/
theorem sv_forV (I : Nat → List Sl → Prop) (tq : D → List Sl → List Sl) {p2 p3 : Pos} (g : Go X W k) (he : EV X B e r (.list ds)) (hm : X.mg "reversed" = none) (ht : ∀ B (i : Nat) d r', ds.reverse[i]? = some d → GT X B tg r' d (tq d r')) (h0 : I 0 r)
    (hs : ∀ H1 (i : Nat) d r', ds.reverse[i]? = some d → I i r' → SV X ⟨H1, B.ps, B.ts, B.gr⟩ W body (tq d r') (P.loop (LN I (i + 1)) fun q => SV X B W rest q P)) (hd : ∀ r', I ds.length r' → SV X B W rest r' P) (hg : Gl X "reversed" := by rfl)
    (hst : starEach [e] X.env = (false, eval e X.env) :: starEach [] X.env := by rfl) (hfs : ∀ x, foldedSetIterable (.Call (.Name "reversed" p2) [e] [] p3) X.env x = pure x := by intro _; rfl) : SV X B W (.For tg (.Call (.Name "reversed" p2) [e] [] p3) body [] pos :: rest) r P := fun H σ E S kt => by
  obtain ⟨te, pe, ke⟩ := he
  refine ⟨_, pss_cons (ps_for g.po g.calm (RT.pi_revA hg hm pe hst) (wG_ok (tg := tg)) (wS_ok (sts := body)) hfs) wS_ok, ?_⟩
  refine ke H σ S _ fun v H1 s1 y => ?_
  have S1 := S.mono s1
  cases y with
  | @lst a xs _ h1 h2 =>
    have z1 : SqL X.K (hide H1 (own r)) a xs := (hide_sub fun p hp => List.mem_append_left _ hp : Same (hid B r H1) (hide H1 (own r))).seq h1
    have z2 : RpA X.K (hide (hide H1 (own r)) B.ps) xs ds := h2.mono fun b o eo => by
      have eo : hide H1 (own r ++ B.ps) b = some o := eo
      by_cases hb : b ∈ own r ++ B.ps
      · rw [hide_in hb] at eo; cases eo
      · rw [hide_out hb] at eo
        rw [hide_out fun w => hb (List.mem_append_right _ w), hide_out fun w => hb (List.mem_append_left _ w)]
        exact .inl eo
    refine ⟨a, xs, rfl, .inl ⟨hide_same.seq h1, ?_⟩⟩
    have hl : xs.length = ds.length := h2.len
    refine RT.for_Itv (g := wG X tg) (tb := wS X body) (D := { E with nx := wS X rest E }) (K := X.K) (a := a) (xs := xs) (fun i σ' H' => ∃ r', SOk X.K (B.at r H1) r' H' σ' ∧ I i r') ⟨r, S1.rebase, h0⟩ (fun i σ' H' ⟨r', S', hI⟩ => S'.ex.seq (H := hide H1 (own r)) z1) (fun i x σ' H' hi hx ⟨r', S', hI⟩ => ?_) (fun σ' H' ⟨r', S', hI⟩ => hd r' (hl ▸ hI) H' σ' E (S1.back S') kt)
    obtain ⟨d, hd', rd⟩ := z2.getV hx
    have hdr : ds.reverse[i]? = some d := by
      rw [List.getElem?_reverse (by omega), ← hl]; exact hd'
    obtain ⟨gx, px, kx⟩ := ht (B.at r H1) i d r' hdr
    have rd' : Rp X.K (hid (B.at r H1) r' H') x d := rd.mono fun b o eo => by
      show Ext1 o (hide H' (own r' ++ B.ps) b)
      by_cases hb : b ∈ B.ps
      · rw [hide_in hb] at eo; cases eo
      · rw [hide_out hb] at eo
        have e2 : Ext1 o (H' b) := S'.ex b o eo
        rw [hide_out fun w => (List.mem_append.mp w).elim (fun w' => by
          have := S'.new b w'
          rw [show (B.at r H1).H0 b = some o from eo] at this
          cases this) hb]
        exact e2
    exact ⟨gx, px, kx H' σ' _ S' rd' _ fun σ2 S2 => hs (hide H1 (own r)) i d r' hdr hI H' σ2 _ S2 (Kt.loop S1 kt _ fun q H3 σ3 S3 hI3 => ⟨q, S3, hI3⟩)⟩

theorem sv_forVT (I : Nat → List Sl → Prop) (tq : D → List Sl → List Sl) {p2 p3 : Pos} (g : Go X W k) (he : EV X B e r (.tuple ds)) (hm : X.mg "reversed" = none) (ht : ∀ B (i : Nat) d r', ds.reverse[i]? = some d → GT X B tg r' d (tq d r')) (h0 : I 0 r)
    (hs : ∀ H1 (i : Nat) d r', ds.reverse[i]? = some d → I i r' → SV X ⟨H1, B.ps, B.ts, B.gr⟩ W body (tq d r') (P.loop (LN I (i + 1)) fun q => SV X B W rest q P)) (hd : ∀ r', I ds.length r' → SV X B W rest r' P) (hg : Gl X "reversed" := by rfl)
    (hst : starEach [e] X.env = (false, eval e X.env) :: starEach [] X.env := by rfl) (hfs : ∀ x, foldedSetIterable (.Call (.Name "reversed" p2) [e] [] p3) X.env x = pure x := by intro _; rfl) : SV X B W (.For tg (.Call (.Name "reversed" p2) [e] [] p3) body [] pos :: rest) r P := fun H σ E S kt => by
  obtain ⟨te, pe, ke⟩ := he
  refine ⟨_, pss_cons (ps_for g.po g.calm (RT.pi_revA hg hm pe hst) (wG_ok (tg := tg)) (wS_ok (sts := body)) hfs) wS_ok, ?_⟩
  refine ke H σ S _ fun v H1 s1 y => ?_
  have S1 := S.mono s1
  cases y with
  | @tup a xs _ h1 h2 =>
    have z1 : SqT X.K (hide H1 (own r)) a xs := seqT (hide_sub fun p hp => List.mem_append_left _ hp : Same (hid B r H1) (hide H1 (own r))) h1
    have z2 : RpA X.K (hide (hide H1 (own r)) B.ps) xs ds := h2.mono fun b o eo => by
      have eo : hide H1 (own r ++ B.ps) b = some o := eo
      by_cases hb : b ∈ own r ++ B.ps
      · rw [hide_in hb] at eo; cases eo
      · rw [hide_out hb] at eo
        rw [hide_out fun w => hb (List.mem_append_right _ w), hide_out fun w => hb (List.mem_append_left _ w)]
        exact .inl eo
    refine ⟨a, xs, rfl, .inr ⟨seqT hide_same h1, ?_⟩⟩
    have hl : xs.length = ds.length := h2.len
    refine RT.for_ItvT (g := wG X tg) (tb := wS X body) (D := { E with nx := wS X rest E }) (K := X.K) (a := a) (xs := xs) (fun i σ' H' => ∃ r', SOk X.K (B.at r H1) r' H' σ' ∧ I i r') ⟨r, S1.rebase, h0⟩ (fun i σ' H' ⟨r', S', hI⟩ => seqT (H := hide H1 (own r)) S'.ex z1) (fun i x σ' H' hi hx ⟨r', S', hI⟩ => ?_) (fun σ' H' ⟨r', S', hI⟩ => hd r' (hl ▸ hI) H' σ' E (S1.back S') kt)
    obtain ⟨d, hd', rd⟩ := z2.getV hx
    have hdr : ds.reverse[i]? = some d := by
      rw [List.getElem?_reverse (by omega), ← hl]; exact hd'
    obtain ⟨gx, px, kx⟩ := ht (B.at r H1) i d r' hdr
    have rd' : Rp X.K (hid (B.at r H1) r' H') x d := rd.mono fun b o eo => by
      show Ext1 o (hide H' (own r' ++ B.ps) b)
      by_cases hb : b ∈ B.ps
      · rw [hide_in hb] at eo; cases eo
      · rw [hide_out hb] at eo
        have e2 : Ext1 o (H' b) := S'.ex b o eo
        rw [hide_out fun w => (List.mem_append.mp w).elim (fun w' => by
          have := S'.new b w'
          rw [show (B.at r H1).H0 b = some o from eo] at this
          cases this) hb]
        exact e2
    exact ⟨gx, px, kx H' σ' _ S' rd' _ fun σ2 S2 => hs (hide H1 (own r)) i d r' hdr hI H' σ2 _ S2 (Kt.loop S1 kt _ fun q H3 σ3 S3 hI3 => ⟨q, S3, hI3⟩)⟩

/-! ### all, any, sum of a list -/
theorem rp_bls {K : PySem.W.Frag} {H : Hp} : ∀ {vs : List V} {bs : List Bool}, RpA K H vs (bs.map PyData.bool) → vs = bs.map V.bl
  | _, [], h => by cases h; rfl
  | _, b :: bs, h => by
    cases h with
    | cons h1 h2 => cases h1; rw [rp_bls h2]; rfl
theorem rp_ints {K : PySem.W.Frag} {H : Hp} : ∀ {vs : List V} {bs : List Int}, RpA K H vs (bs.map PyData.int) → vs = bs.map V.int
  | _, [], h => by cases h; rfl
  | _, b :: bs, h => by
    cases h with
    | cons h1 h2 => cases h1; rw [rp_ints h2]; rfl
theorem evAll {bs : List Bool} {W : WX} (g : Go X W k) (h : EV X B e r (.list (bs.map PyData.bool))) (hm : X.mg "all" = none) (hg : Gl X "all" := by rfl) (hst : NSt X e := by exact fun _ => rfl) : EV X B (.Call (.Name "all" p) [e] [] pos) r (.bool (bs.all id)) := by
  obtain ⟨t, pp, q⟩ := h
  refine ⟨_, pe_callB (cr_all g.calm) hg hm (by decide +kernel) (pa_cons pp pa_nil (hst _)) (he := hst _), fun H σ S Q q' => q H σ S _ fun v H1 s1 y => ?_⟩
  cases y with
  | lst h1 h2 =>
    have e := rp_bls h2
    subst e
    exact ⟨_, bs, rfl, hide_same.seq h1, q' _ H1 s1 (.bl _)⟩
theorem evAny {bs : List Bool} {W : WX} (g : Go X W k) (h : EV X B e r (.list (bs.map PyData.bool))) (hm : X.mg "any" = none) (hg : Gl X "any" := by rfl) (hst : NSt X e := by exact fun _ => rfl) : EV X B (.Call (.Name "any" p) [e] [] pos) r (.bool (bs.any id)) := by
  obtain ⟨t, pp, q⟩ := h
  refine ⟨_, pe_callB (cr_any g.calm) hg hm (by decide +kernel) (pa_cons pp pa_nil (hst _)) (he := hst _), fun H σ S Q q' => q H σ S _ fun v H1 s1 y => ?_⟩
  cases y with
  | lst h1 h2 =>
    have e := rp_bls h2
    subst e
    exact ⟨_, bs, rfl, hide_same.seq h1, q' _ H1 s1 (.bl _)⟩
theorem evSum {bs : List Int} {W : WX} (g : Go X W k) (h : EV X B e r (.list (bs.map PyData.int))) (hm : X.mg "sum" = none) (hg : Gl X "sum" := by rfl) (hst : NSt X e := by exact fun _ => rfl) : EV X B (.Call (.Name "sum" p) [e] [] pos) r (.int bs.sum) := by
  obtain ⟨t, pp, q⟩ := h
  refine ⟨_, pe_callB (cr_sum g.calm) hg hm (by decide +kernel) (pa_cons pp pa_nil (hst _)) (he := hst _), fun H σ S Q q' => q H σ S _ fun v H1 s1 y => ?_⟩
  cases y with
  | lst h1 h2 =>
    have e := rp_ints h2
    subst e
    exact ⟨_, bs, rfl, hide_same.seq h1, q' _ H1 s1 (.int _)⟩

/-! ### comprehensions -/
theorem SOk.dock {K : PySem.W.Frag} {H : Hp} {σ : St} {Dl : Addr} {ob : HO} (S : SOk K B r H σ) (hD : H Dl = none) : SOk K ⟨hide (upd H Dl ob) (own r), Dl :: B.ps, B.ts, B.gr⟩ r (upd H Dl ob) σ := by
  have nD : Dl ∉ own r := fun z => by obtain ⟨u, e, nt⟩ := S.there z; rw [hD] at e; cases e
  have hh : Same (hid B r H) (hide (upd H Dl ob) (own r ++ Dl :: B.ps)) := fun b u eb => by
    have eb : hide H (own r ++ B.ps) b = some u := eb
    by_cases hb : b ∈ own r ++ B.ps
    · rw [hide_in hb] at eb; cases eb
    · rw [hide_out hb] at eb
      have nb : b ≠ Dl := ne_of_none eb hD
      rw [hide_out fun z => (List.mem_append.mp z).elim (fun y => hb (List.mem_append_left _ y)) fun y => (List.mem_cons.mp y).elim nb fun y => hb (List.mem_append_right _ y), upd_ne nb]
      exact .inl eb
  refine ⟨hide_same, fun p hp => ?_, fun p hp => hide_in hp, S.nd, S.len, fun i t e => (S.sl i t e).mono hh fun p hp => ?_, fun t ht => (S.tb t ht).mono (same_new hD), GOk.mono hh (fun q hq => upd_ne fun z => ?_) S.gr, fun p hp => List.mem_cons_of_mem _ (S.gp p hp)⟩
  · show hide (upd H Dl ob) (own r) p ≠ none
    rcases List.mem_cons.mp hp with z | z
    · subst z; rw [hide_out nD, upd_same]; exact fun z => nomatch z
    · have h0 := S.old p z
      have np : p ≠ Dl := fun y => S.dom p (List.mem_append_right _ z) (y ▸ hD)
      rw [hide_out fun y => h0 (S.new p y), upd_ne np]
      exact S.dom p (List.mem_append_right _ z)
  · exact upd_ne fun z => nD (z ▸ mem_own e hp)
  · subst z
    exact S.dom _ (List.mem_append_right _ (S.gp _ hq)) hD
theorem SOk.redock {K : PySem.W.Frag} {H : Hp} {σ : St} {Dl : Addr} {ob ob0 : HO} (S : SOk K B r H σ) (hD : Dl ∈ B.ps) (e0 : H Dl = some ob0) (nt : NT ob0) (hg : Dl ∉ gown B.gr) : SOk K ⟨hide (upd H Dl ob) (own r), B.ps, B.ts, B.gr⟩ r (upd H Dl ob) σ := by
  have nD : Dl ∉ own r := fun z => S.old Dl hD (S.new Dl z)
  refine ⟨hide_same, fun p hp => ?_, fun p hp => hide_in hp, S.nd, S.len, fun i t e => (S.sl i t e).mono (hide_upd (List.mem_append_right _ hD)) fun p hp => upd_ne fun z => nD (z ▸ mem_own e hp), fun t ht => (S.tb t ht).ext fun o eo => .inl ((upd_ne ((S.tb t ht).ne e0 nt)).trans eo), GOk.mono (hide_upd (List.mem_append_right _ hD)) (fun q hq => upd_ne fun z => hg (z ▸ hq)) S.gr, S.gp⟩
  show hide (upd H Dl ob) (own r) p ≠ none
  rw [hide_out fun y => S.old p hp (S.new p y)]
  by_cases np : p = Dl
  · subst np; rw [upd_same]; exact fun z => nomatch z
  · rw [upd_ne np]; exact S.dom p (List.mem_append_right _ hp)
/-- what a comprehension has gathered -/
def lcOut (pb : Nat → Bool) (f : Nat → D) : Nat → List D
  | 0 => []
  | i + 1 => if pb i = true then lcOut pb f i ++ [f i] else lcOut pb f i
theorem lcOut_len (pb : Nat → Bool) (f : Nat → D) : ∀ i, (lcOut pb f i).length ≤ i
  | 0 => Nat.le_refl _
  | i + 1 => by
    have := lcOut_len pb f i
    unfold lcOut
    split
    · rw [List.length_append]; exact Nat.succ_le_succ this
    · omega
theorem lcOut_all (f : Nat → D) : ∀ n, lcOut (fun _ => true) f n = (List.range n).map f
  | 0 => rfl
  | n + 1 => by
    unfold lcOut
    rw [if_pos rfl, lcOut_all f n, List.range_succ, List.map_append]
    rfl
theorem lcOut_take (pb : D → Bool) (f : D → D) (ds : List D) : ∀ n, n ≤ ds.length → lcOut (fun i => pb (ds.getD i .none)) (fun i => f (ds.getD i .none)) n = ((ds.take n).filter pb).map f
  | 0, _ => rfl
  | n + 1, h => by
    have hn : ds[n]? = some (ds.getD n .none) := by
      rw [List.getD_eq_getElem?_getD, List.getElem?_eq_getElem (by omega)]
      rfl
    unfold lcOut
    rw [lcOut_take pb f ds n (by omega), List.take_succ, hn]
    simp only [Option.toList]
    rw [List.filter_append, List.map_append]
    by_cases hp : pb (ds.getD n .none) = true
    · rw [if_pos hp, List.filter_cons_of_pos hp]; rfl
    · rw [if_neg hp, List.filter_cons_of_neg hp]; exact (List.append_nil _).symm
abbrev Blk (X : Cx) (scope : Scope) (s : Shared) (H0 : Hp) (cl : List (Str × Addr)) (C : Addr) (fp : List Addr) : Cx := X.blk s H0 scope (compEnvC scope cl C X.env) fp
theorem Go.blk {scope : Scope} {s : Shared} {H0 : Hp} {cl : List (Str × Addr)} {C : Addr} {fp : List Addr} (g : Go X W k) : Go (Blk X scope s H0 cl C fp) W0 k := ⟨g.hr, g.calm, PassesOwn.never, takes_none5, g.nd⟩
/-- a clause's tests, at the item d i -/
def LT (X : Cx) (B : Bx) (scope : Scope) (ifs : List Expr) (rs : Nat → List Sl) (n : Nat) (pb : Nat → Bool) : Prop :=
  ∃ tt, (∀ s H0 C cl fp, PTs (Blk X scope s H0 cl C fp) ifs tt) ∧ ∀ H' q' i H σ, i < n → SOk X.K ⟨H', q', B.ts, B.gr⟩ (rs i) H σ → ∀ Q : Bool → Hp → Prop, (∀ H', Same H H' → Q (pb i) H') → tt σ H Q
theorem lt_nil {scope : Scope} {rs : Nat → List Sl} {n : Nat} : LT X B scope [] rs n fun _ => true := ⟨_, fun _ _ _ _ _ => pts_nil, fun H' q' i H σ _ S Q q => q H (Same.refl H)⟩
theorem lt_one {scope : Scope} {rs : Nat → List Sl} {n : Nat} {pb : Nat → Bool} (h : ∀ s H0 C cl fp H' q' i, i < n → ET (Blk X scope s H0 cl C fp) ⟨H', q', B.ts, B.gr⟩ c (rs i) (pb i)) : LT X B scope [c] rs n pb :=
  ⟨fun σ H Q => ∀ s H0 C cl fp, wT (Blk X scope s H0 cl C fp) c σ H Q, fun s H0 C cl fp => pts_one ⟨fun pins s' σ H Q I z => wT_ok.run pins s' σ H Q I (z s H0 C cl fp)⟩, fun H' q' i H σ hi S Q q s H0 C cl fp => by
    obtain ⟨t, p, kk⟩ := h s H0 C cl fp H' q' i hi
    exact ⟨t, p, kk H σ S Q q⟩⟩
/-- the state between two turns -/
def LcP (K : PySem.W.Frag) (B : Bx) (r : List Sl) (ix : Nat) (σ : St) (H1 : Hp) (Dl : Addr) (ol : List D) (H' : Hp) : Prop :=
  Same H1 H' ∧ SOk K ⟨hide H' (own r), Dl :: B.ps, B.ts, B.gr⟩ r H' (σ.set ix none) ∧ Dl ∉ gown B.gr ∧ ∃ acc, H' Dl = some (.lst acc) ∧ RpA K (hide H' (Dl :: (own r ++ B.ps))) acc ol
theorem set_self {α : Type} : ∀ {l : List α} {i : Nat} {a : α}, l[i]? = some a → l.set i a = l
  | [], _, _, h => by simp at h
  | x :: l, 0, a, h => by simp at h; subst h; rfl
  | x :: l, i + 1, a, h => congrArg (x :: ·) (set_self (i := i) (by simpa using h))
theorem hid_eq {H : Hp} {os ps : List Addr} {Dl : Addr} : Same (hide H (os ++ Dl :: ps)) (hide H (Dl :: (os ++ ps))) := hide_sub fun p hp => (List.mem_cons.mp hp).elim (fun z => List.mem_append_right _ (z ▸ List.mem_cons_self)) fun z => (List.mem_append.mp z).elim (fun y => List.mem_append_left _ y) fun y => List.mem_append_right _ (List.mem_cons_of_mem _ y)
theorem lc_turn {ix : Nat} {elt : Expr} {scope : Scope} {σ : St} {H1 H' : Hp} {Dl : Addr} {n i : Nat} {pb : Nat → Bool} {f dv : Nat → D} {v : V} {tt : TT} (h0 : r[ix]? = some .no) (hD : H1 Dl = none) (hn : n ≤ 100000) (hi : i < n)
    (he : ∀ s H0 C cl fp H' q' i, i < n → pb i = true → EV (Blk X scope s H0 cl C fp) ⟨H', q', B.ts, B.gr⟩ elt (r.set ix (.im (dv i))) (f i))
    (ht : ∀ H' q' i H σ, i < n → SOk X.K ⟨H', q', B.ts, B.gr⟩ (r.set ix (.im (dv i))) H σ → ∀ Q : Bool → Hp → Prop, (∀ H', Same H H' → Q (pb i) H') → tt σ H Q)
    (p : LcP X.K B r ix σ H1 Dl (lcOut pb f i) H') (hv : Rp X.K (hide H' (own r ++ Dl :: B.ps)) v (dv i)) :
    gName ix v (wipe σ [ix]) H' fun σ2 H2 => wipe σ2 [ix] = wipe σ [ix] ∧ tt σ2 H2 fun b H3 =>
      if b = true then (fun σ H Q => ∀ s H0 C cl fp, wE (Blk X scope s H0 cl C fp) elt σ H Q : TE) σ2 H3 fun y H4 => ∃ acc, H4 Dl = some (.lst acc) ∧ acc.length < sizeLine ∧ LcP X.K B r ix σ H1 Dl (lcOut pb f (i + 1)) (upd H4 Dl (.lst (acc ++ [y]))) else LcP X.K B r ix σ H1 Dl (lcOut pb f (i + 1)) H3 := by
  obtain ⟨p1, S, pg, acc, p2, p3⟩ := p
  show (((σ.set ix none).set ix (some v)).set ix none = σ.set ix none) ∧ tt ((σ.set ix none).set ix (some v)) H' _
  refine ⟨by rw [List.set_set, List.set_set], ?_⟩
  have S2 : SOk X.K ⟨hide H' (own r), Dl :: B.ps, B.ts, B.gr⟩ (r.set ix (.im (dv i))) H' ((σ.set ix none).set ix (some v)) := S.im hv
  refine ht _ _ i H' _ hi S2 _ fun H3 s3 => ?_
  have S3 := S2.mono s3
  have S3' := S.mono s3
  have p2' : H3 Dl = some (.lst acc) := s3.k p2
  have p3' := p3.mono (hide_mono (ps := Dl :: (own r ++ B.ps)) s3)
  cases hb : pb i with
  | false =>
    rw [if_neg Bool.false_ne_true]
    unfold lcOut
    rw [if_neg (by rw [hb]; exact Bool.false_ne_true)]
    exact ⟨p1.trans s3, S3'.rebase, pg, acc, p2', p3'⟩
  | true =>
    rw [if_pos rfl]
    intro s H0 C cl fp
    obtain ⟨t, pt, kt⟩ := he s H0 C cl fp (hide H' (own r)) (Dl :: B.ps) i hi hb
    refine ⟨t, pt, kt H3 _ S3 _ fun y H4 s4 ry => ?_⟩
    have p2'' : H4 Dl = some (.lst acc) := s4.k p2'
    have hl := lcOut_len pb f i
    have hln := p3'.len
    refine ⟨acc, p2'', by rw [hln]; exact Nat.lt_of_lt_of_le (by omega : _ < 100000) (by decide : 100000 ≤ sizeLine), ?_, ?_, pg, acc ++ [y], upd_same, ?_⟩
    · intro b u eb
      rw [upd_ne (ne_of_none eb hD)]
      exact ((p1.trans s3).trans s4) b u eb
    · exact (S3'.mono s4).redock List.mem_cons_self p2'' trivial pg
    · unfold lcOut
      rw [if_pos hb]
      refine ((p3'.mono (hide_mono s4)).app (.one ?_)).mono (hide_upd List.mem_cons_self)
      have eo : own (r.set ix (.im (dv i))) = own r := own_set_eq (s := .no) (s' := .im (dv i)) rfl h0
      have ry : Rp X.K (hide H4 (own (r.set ix (.im (dv i))) ++ Dl :: B.ps)) y (f i) := ry
      rw [eo] at ry
      exact ry.mono hid_eq
theorem LcP.start {K : PySem.W.Frag} {ix : Nat} {σ : St} {H1 : Hp} {Dl : Addr} (h0 : r[ix]? = some .no) (S : SOk K B r H1 σ) (hD : H1 Dl = none) : LcP K B r ix σ H1 Dl [] (upd H1 Dl (.lst [])) := by
  have S' := S.setNo (i := ix)
  rw [set_self h0] at S'
  exact ⟨same_new hD, S'.dock hD, fun z => S.dom Dl (List.mem_append_right _ (S.gp Dl z)) hD, [], upd_same, .nil⟩
theorem LcP.done {K : PySem.W.Frag} {ix : Nat} {σ : St} {H1 H' : Hp} {Dl : Addr} {ol : List D} (S : SOk K B r H1 σ) (hD : H1 Dl = none) (p : LcP K B r ix σ H1 Dl ol H') : Rp K (hid B r H') (.ref Dl) (.list ol) := by
  obtain ⟨p1, _, _, acc, p2, p3⟩ := p
  refine .lst (SqL.of ?_) (p3.mono (hide_sub fun q hq => List.mem_cons_of_mem _ hq))
  show hide H' (own r ++ B.ps) Dl = _
  rw [hide_out fun z => S.dom Dl z hD]; exact p2
theorem LcP.see {K : PySem.W.Frag} {ix : Nat} {σ : St} {H1 H' : Hp} {Dl : Addr} {ol : List D} (hD : H1 Dl = none) (p : LcP K B r ix σ H1 Dl ol H') : Same (hid B r H1) (hide H' (own r ++ Dl :: B.ps)) := fun b u eb => by
  have eb : hide H1 (own r ++ B.ps) b = some u := eb
  by_cases hb : b ∈ own r ++ B.ps
  · rw [hide_in hb] at eb; cases eb
  · rw [hide_out hb] at eb
    have nb : b ≠ Dl := ne_of_none eb hD
    rw [hide_out fun z => (List.mem_append.mp z).elim (fun y => hb (List.mem_append_left _ y)) fun y => (List.mem_cons.mp y).elim nb fun y => hb (List.mem_append_right _ y)]
    exact p.1 _ _ eb
/-- a comprehension, as a value or stored -/
def LcD (X : Cx) (B : Bx) (e : Expr) (r : List Sl) (d : D) : Prop :=
  ∃ te, PE X e te ∧ (∀ (i : Nat) (y : Str) (py spos : Pos), X.N[i]? = some y → X.env.scope.names.lookup y = some .local → swapsWith e (some (.Name y py)) spos.line X.env = pure true → PS X (.Assign [.Name y py] e spos) (tAsg te (gName i))) ∧
    ∀ H σ, SOk X.K B r H σ → ∀ Q : VK, (∀ Dl H1 H' acc ds, d = .list ds → Same H H1 → H1 Dl = none → SOk X.K B r H1 σ → Same H1 H' → H' Dl = some (.lst acc) → RpA X.K (hide H' (Dl :: (own r ++ B.ps))) acc ds → Q (.ref Dl) H') → te σ H Q
theorem lc_val {K : PySem.W.Frag} {σ : St} {H H1 H' : Hp} {Dl : Addr} {acc : List V} {ds : List D} (S : SOk K B r H1 σ) (hD : H1 Dl = none) (p2 : H' Dl = some (.lst acc)) (p3 : RpA K (hide H' (Dl :: (own r ++ B.ps))) acc ds) : Rp K (hid B r H') (.ref Dl) (.list ds) := by
  refine .lst (SqL.of ?_) (p3.mono (hide_sub fun q hq => List.mem_cons_of_mem _ hq))
  show hide H' (own r ++ B.ps) Dl = _
  rw [hide_out fun z => S.dom Dl z hD]; exact p2
theorem LcD.ev (h : LcD X B e r d) : EV X B e r d := let ⟨te, p, _, q⟩ := h; ⟨te, p, fun H σ S Q g => q H σ S Q fun Dl H1 H' acc ds ed s1 hD S1 s2 p2 p3 => g _ _ (s1.trans s2) (by subst ed; exact lc_val (H := H) S1 hD p2 p3)⟩
/-- a comprehension: a new owned list -/
theorem LcD.en (h : LcD X B e r (.list ds)) : EN X B e r (fun p => .ol p ds) := let ⟨te, p, _, q⟩ := h; ⟨te, p, fun H σ S Q g => q H σ S Q fun Dl H1 H' acc ds' ed s1 hD S1 s2 p2 p3 => by
  cases ed
  have e1 : ∀ b, b ≠ Dl → (fun b => if b = Dl then none else H' b) b = H' b := fun b hb => if_neg hb
  have s3 : Same H1 (fun b => if b = Dl then none else H' b) := fun b u eb => by
    rw [e1 b (ne_of_none eb hD)]; exact s2 b u eb
  have e2 : upd (fun b => if b = Dl then none else H' b) Dl (.lst acc) = H' := by
    funext b
    by_cases hb : b = Dl
    · subst hb; rw [upd_same, p2]
    · rw [upd_ne hb]; exact if_neg hb
  have z := g Dl (.lst acc) (fun b => if b = Dl then none else H' b) (s1.trans s3) (if_pos rfl) rfl ⟨rfl, acc, by rw [upd_same], p3.mono fun b u eb => ?_⟩
  · rw [e2] at z; exact z
  · by_cases hb : b = Dl
    · subst hb; rw [hide_in List.mem_cons_self] at eb; cases eb
    · by_cases hb2 : b ∈ own r ++ B.ps
      · rw [hide_in (List.mem_cons_of_mem _ hb2)] at eb; cases eb
      · rw [hide_out (fun z => (List.mem_cons.mp z).elim hb hb2)] at eb
        refine .inl ?_
        show hide _ (own r ++ B.ps) b = _
        rw [hide_out hb2]; exact (if_neg hb).trans eb⟩
theorem sv_asgLc (i : Nat) {W : WX} {elt : Expr} {gs : List Comprehension} {scope : Scope} {lp : Pos} (he : LcD X B (.ListComp elt gs scope lp) r d) (h : SV X B W rest (r.set i (.im d)) P) (hi : X.N[i]? = some x := by rfl) (hx : X.env.scope.names.lookup x = some .local := by rfl)
    (hk : X.env.scope.kind = .function := by rfl) (hl : (pos'.line == lp.line) = true := by rfl) (ha : (scope.names.any fun (n, k) => n == x && (k == .local || k == .cell)) = false := by rfl) : SV X B W (.Assign [.Name x pos'] (.ListComp elt gs scope lp) pos :: rest) r P := fun H σ E S kt => by
  obtain ⟨te, _, p, q⟩ := he
  exact ⟨_, pss_cons (p i x pos' pos hi hx (sw_true hk hx hl ha)) wS_ok, q H σ S _ fun Dl H1 H' acc ds ed s1 hD S1 s2 p2 p3 => h H' _ E ((S.mono (s1.trans s2)).im (by subst ed; exact lc_val (H := H) S1 hD p2 p3)) kt⟩
/-- [elt for x in range(n) if ..] -/
theorem evLcR (ix : Nat) {n : Int} {pb : Nat → Bool} {f : Nat → D} {elt : Expr} {ifs : List Expr} {px p2 cp : Pos} {scope : Scope} (g : Go X W k) (hn : EV X B a r (.int n)) (hz : 0 ≤ n ∧ n ≤ 100000) (hm : X.mg "range" = none) (ht : LT X B scope ifs (fun i => r.set ix (.im (.int (i : Int)))) n.toNat pb)
    (he : ∀ s H0 C cl fp H' q' i, i < n.toNat → pb i = true → EV (Blk X scope s H0 cl C fp) ⟨H', q', B.ts, B.gr⟩ elt (r.set ix (.im (.int (i : Int)))) (f i)) (h0 : r[ix]? = some .no := by rfl) (hg : Gl X "range" := by rfl) (ok : BlkOk X.N X.env.scope scope [(x, ix)] := by exact blkOk_by (by rfl)) (hi : X.N[ix]? = some x := by rfl)
    (hx : Loc (compEnvC scope [] 0 X.env).scope x := by first | exact Or.inl rfl | exact Or.inr rfl) (hf : (scope.names.lookup x == some .cell) = true ∨ (compEnvC scope [] 0 X.env).scope.names.lookup x = some .local := by first | exact Or.inr rfl | exact Or.inl rfl)
    (hst : starEach [a] X.env = [(false, eval a X.env)] := by rfl) (hs : ∀ v, foldedSetIterable (.Call (.Name "range" p2) [a] [] cp) X.env v = pure v := by intro _; rfl) :
    LcD X B (.ListComp elt [⟨.Name x px, .Call (.Name "range" p2) [a] [] cp, ifs, 0⟩] scope pos) r (.list (lcOut pb f n.toNat)) := by
  obtain ⟨ta, pa, ka⟩ := hn
  obtain ⟨tt, pt, kt⟩ := ht
  refine ⟨_, pe_lc (own := [(x, ix)]) (te := fun σ H Q => ∀ s H0 C cl fp, wE (Blk X scope s H0 cl C fp) elt σ H Q) g.calm g.nd (pi_range1 hg hm (pa_cons pa pa_nil (by rw [hst]; rfl)) hst) ok (fun s H0 C cl fp => pg_name (i := ix) g.nd hi hx hf) pt (fun s H0 C cl fp => ⟨fun pins s' σ H Q I z => wE_ok.run pins s' σ H Q I (z s H0 C cl fp)⟩) hs, fun i y py spos hy hl hsw => ps_setLc (own := [(x, ix)]) (te := fun σ H Q => ∀ s H0 C cl fp, wE (Blk X scope s H0 cl C fp) elt σ H Q) g.calm g.nd hy hl hsw (pi_range1 hg hm (pa_cons pa pa_nil (by rw [hst]; rfl)) hst) ok (fun s H0 C cl fp => pg_name (i := ix) g.nd hi hx hf) pt (fun s H0 C cl fp => ⟨fun pins s' σ H Q I z => wE_ok.run pins s' σ H Q I (z s H0 C cl fp)⟩) hs, fun H σ S Q q => ?_⟩
  refine ka H σ S _ fun v H1 s1 y => ?_
  cases y
  refine ⟨n, rfl, by omega, by omega, fun Dl hD => ?_⟩
  have S1 := S.mono s1
  refine lc_range (g := gName ix) (tt := tt) (te := fun σ H Q => ∀ s H0 C cl fp, wE (Blk X scope s H0 cl C fp) elt σ H Q) (vs := [ix]) (σ := σ) (lo := 0) (n := n.toNat) (fun i H' => LcP X.K B r ix σ H1 Dl (lcOut pb f i) H') (LcP.start h0 S1 hD) (fun i H' hi' p => ?_) fun H' p => let ⟨p1, _, _, acc, p2, p3⟩ := p; q Dl H1 H' acc _ rfl s1 hD S1 p1 p2 p3
  rw [Int.zero_add]
  exact lc_turn (dv := fun i => .int (i : Int)) h0 hD (by omega) hi' he kt p (.int _)
/-- the tests, at the items of a sequence -/
def LTQ (X : Cx) (B : Bx) (scope : Scope) (ifs : List Expr) (r : List Sl) (ix : Nat) {α : Type} (L : List α) (gd : α → D) (pb : α → Bool) : Prop :=
  ∃ tt, (∀ s H0 C cl fp, PTs (Blk X scope s H0 cl C fp) ifs tt) ∧ ∀ H' q' u H σ, u ∈ L → SOk X.K ⟨H', q', B.ts, B.gr⟩ (r.set ix (.im (gd u))) H σ → ∀ Q : Bool → Hp → Prop, (∀ H', Same H H' → Q (pb u) H') → tt σ H Q
theorem ltq_nil {scope : Scope} {r : List Sl} {ix : Nat} {α : Type} {L : List α} {gd : α → D} : LTQ X B scope [] r ix L gd fun _ => true := ⟨_, fun _ _ _ _ _ => pts_nil, fun H' q' i H σ _ S Q q => q H (Same.refl H)⟩
theorem ltq_one {scope : Scope} {r : List Sl} {ix : Nat} {α : Type} {L : List α} {gd : α → D} {pb : α → Bool} (h : ∀ s H0 C cl fp H' q' u, u ∈ L → ET (Blk X scope s H0 cl C fp) ⟨H', q', B.ts, B.gr⟩ c (r.set ix (.im (gd u))) (pb u)) : LTQ X B scope [c] r ix L gd pb :=
  ⟨fun σ H Q => ∀ s H0 C cl fp, wT (Blk X scope s H0 cl C fp) c σ H Q, fun s H0 C cl fp => pts_one ⟨fun pins s' σ H Q I z => wT_ok.run pins s' σ H Q I (z s H0 C cl fp)⟩, fun H' q' i H σ hi S Q q s H0 C cl fp => by
    obtain ⟨t, p, kk⟩ := h s H0 C cl fp H' q' i hi
    exact ⟨t, p, kk H σ S Q q⟩⟩
def atB {α : Type} (pb : α → Bool) (L : List α) (i : Nat) : Bool := match L[i]? with
  | some a => pb a
  | none => false
def atD {α : Type} (f : α → D) (L : List α) (i : Nat) : D := match L[i]? with
  | some a => f a
  | none => .none
theorem lcOut_on {α : Type} (pb : α → Bool) (f : α → D) (L : List α) : ∀ n, n ≤ L.length → lcOut (atB pb L) (atD f L) n = ((L.take n).filter pb).map f
  | 0, _ => rfl
  | n + 1, h => by
    have hn : L[n]? = some (L[n]'(by omega)) := List.getElem?_eq_getElem (by omega)
    unfold lcOut
    rw [lcOut_on pb f L n (by omega), List.take_succ, hn]
    have e1 : atB pb L n = pb (L[n]'(by omega)) := by unfold atB; rw [hn]
    have e2 : atD f L n = f (L[n]'(by omega)) := by unfold atD; rw [hn]
    rw [e1, e2]
    simp only [Option.toList]
    rw [List.filter_append, List.map_append]
    by_cases hp : pb (L[n]'(by omega)) = true
    · rw [if_pos hp, List.filter_cons_of_pos hp]; rfl
    · rw [if_neg hp, List.filter_cons_of_neg hp]; exact (List.append_nil _).symm
/-- [elt for x in a list, a tuple if ..] -/
theorem evLcQ (ix : Nat) {tp : Bool} {α : Type} {L : List α} {gd : α → D} {pb : α → Bool} {f : α → D} {elt : Expr} {ifs : List Expr} {px : Pos} {scope : Scope} (g : Go X W k) (hn : ES X B a r tp (L.map gd)) (hz : L.length ≤ 100000) (ht : LTQ X B scope ifs r ix L gd pb)
    (he : ∀ s H0 C cl fp H' q' u, u ∈ L → pb u = true → EV (Blk X scope s H0 cl C fp) ⟨H', q', B.ts, B.gr⟩ elt (r.set ix (.im (gd u))) (f u)) (h0 : r[ix]? = some .no := by rfl) (ok : BlkOk X.N X.env.scope scope [(x, ix)] := by exact blkOk_by (by rfl)) (hi : X.N[ix]? = some x := by rfl)
    (hx : Loc (compEnvC scope [] 0 X.env).scope x := by first | exact Or.inl rfl | exact Or.inr rfl) (hf : (scope.names.lookup x == some .cell) = true ∨ (compEnvC scope [] 0 X.env).scope.names.lookup x = some .local := by first | exact Or.inr rfl | exact Or.inl rfl)
    (hs : ∀ v, foldedSetIterable a X.env v = pure v := by intro _; rfl) :
    LcD X B (.ListComp elt [⟨.Name x px, a, ifs, 0⟩] scope pos) r (.list ((L.filter pb).map f)) := by
  obtain ⟨ta, pa, ka⟩ := hn
  obtain ⟨tt, pt, kt⟩ := ht
  have fin : (L.filter pb).map f = lcOut (atB pb L) (atD f L) L.length := by rw [lcOut_on pb f L _ (Nat.le_refl _), List.take_length]
  have he' : ∀ s H0 C cl fp H' q' i, i < L.length → atB pb L i = true → EV (Blk X scope s H0 cl C fp) ⟨H', q', B.ts, B.gr⟩ elt (r.set ix (.im (atD gd L i))) (atD f L i) := fun s H0 C cl fp H' q' i hi hp => by
    have hL : L[i]? = some (L[i]'hi) := List.getElem?_eq_getElem hi
    have e1 : atB pb L i = pb (L[i]'hi) := by unfold atB; rw [hL]
    have e2 : atD f L i = f (L[i]'hi) := by unfold atD; rw [hL]
    have e3 : atD gd L i = gd (L[i]'hi) := by unfold atD; rw [hL]
    rw [e2, e3]
    exact he s H0 C cl fp H' q' _ (List.getElem_mem hi) (e1 ▸ hp)
  have kt' : ∀ H' q' i H σ, i < L.length → SOk X.K ⟨H', q', B.ts, B.gr⟩ (r.set ix (.im (atD gd L i))) H σ → ∀ Q : Bool → Hp → Prop, (∀ H', Same H H' → Q (atB pb L i) H') → tt σ H Q := fun H' q' i H σ hi S Q q => by
    have hL : L[i]? = some (L[i]'hi) := List.getElem?_eq_getElem hi
    have e1 : atB pb L i = pb (L[i]'hi) := by unfold atB; rw [hL]
    have e3 : atD gd L i = gd (L[i]'hi) := by unfold atD; rw [hL]
    rw [e3] at S
    rw [e1] at q
    exact kt H' q' _ H σ (List.getElem_mem hi) S Q q
  have itm : ∀ {G : Hp} {xs : List V} {i : Nat} {v : V}, RpA X.K G xs (L.map gd) → xs[i]? = some v → i < L.length ∧ Rp X.K G v (atD gd L i) := fun {G xs i v} h2 hv => by
    obtain ⟨d, hd, rd⟩ := h2.getV hv
    rw [List.getElem?_map] at hd
    cases e : L[i]? with
    | none => rw [e] at hd; cases hd
    | some u =>
      rw [e] at hd
      cases hd
      refine ⟨(List.getElem?_eq_some_iff.mp e).1, ?_⟩
      unfold atD; rw [e]
      exact rd
  cases tp with
  | false =>
    refine ⟨_, pe_lc (own := [(x, ix)]) (te := fun σ H Q => ∀ s H0 C cl fp, wE (Blk X scope s H0 cl C fp) elt σ H Q) g.calm g.nd (pi_list pa) ok (fun s H0 C cl fp => pg_name (i := ix) g.nd hi hx hf) pt (fun s H0 C cl fp => ⟨fun pins s' σ H Q I z => wE_ok.run pins s' σ H Q I (z s H0 C cl fp)⟩) hs, fun i y py spos hy hl hsw => ps_setLc (own := [(x, ix)]) (te := fun σ H Q => ∀ s H0 C cl fp, wE (Blk X scope s H0 cl C fp) elt σ H Q) g.calm g.nd hy hl hsw (pi_list pa) ok (fun s H0 C cl fp => pg_name (i := ix) g.nd hi hx hf) pt (fun s H0 C cl fp => ⟨fun pins s' σ H Q I z => wE_ok.run pins s' σ H Q I (z s H0 C cl fp)⟩) hs, fun H σ S Q q => ?_⟩
    refine ka H σ S _ fun a xs H1 s1 h1 h2 => ?_
    refine ⟨a, rfl, ⟨xs, h1⟩, fun Dl hD => ?_⟩
    have S1 := S.mono s1
    have hl := h2.len
    rw [List.length_map] at hl
    refine lc_list (g := gName ix) (tt := tt) (te := fun σ H Q => ∀ s H0 C cl fp, wE (Blk X scope s H0 cl C fp) elt σ H Q) (vs := [ix]) (σ := σ) (K := X.K) (a := a) (xs := xs) (fun i H' => LcP X.K B r ix σ H1 Dl (lcOut (atB pb L) (atD f L) i) H') (LcP.start h0 S1 hD) (fun i H' _ p => p.1.seq h1) (fun i v H' hv p => ?_) fun H' p => let ⟨p1, _, _, acc, p2, p3⟩ := p; q Dl H1 H' acc _ rfl s1 hD S1 p1 p2 ?_
    · obtain ⟨hi', rd⟩ := itm h2 hv
      exact lc_turn (dv := atD gd L) h0 hD hz hi' he' kt' p (Rp.mono (p.see hD) rd)
    · rw [fin, ← hl]
      exact p3
  | true =>
    refine ⟨_, pe_lc (own := [(x, ix)]) (te := fun σ H Q => ∀ s H0 C cl fp, wE (Blk X scope s H0 cl C fp) elt σ H Q) g.calm g.nd (pi_tup pa) ok (fun s H0 C cl fp => pg_name (i := ix) g.nd hi hx hf) pt (fun s H0 C cl fp => ⟨fun pins s' σ H Q I z => wE_ok.run pins s' σ H Q I (z s H0 C cl fp)⟩) hs, fun i y py spos hy hl hsw => ps_setLc (own := [(x, ix)]) (te := fun σ H Q => ∀ s H0 C cl fp, wE (Blk X scope s H0 cl C fp) elt σ H Q) g.calm g.nd hy hl hsw (pi_tup pa) ok (fun s H0 C cl fp => pg_name (i := ix) g.nd hi hx hf) pt (fun s H0 C cl fp => ⟨fun pins s' σ H Q I z => wE_ok.run pins s' σ H Q I (z s H0 C cl fp)⟩) hs, fun H σ S Q q => ?_⟩
    refine ka H σ S _ fun a xs H1 s1 h1 h2 => ?_
    refine ⟨a, rfl, ⟨xs, h1⟩, fun Dl hD => ?_⟩
    have S1 := S.mono s1
    have hl := h2.len
    rw [List.length_map] at hl
    refine lc_tup (g := gName ix) (tt := tt) (te := fun σ H Q => ∀ s H0 C cl fp, wE (Blk X scope s H0 cl C fp) elt σ H Q) (vs := [ix]) (σ := σ) (K := X.K) (a := a) (xs := xs) (fun i H' => LcP X.K B r ix σ H1 Dl (lcOut (atB pb L) (atD f L) i) H') (LcP.start h0 S1 hD) (fun i H' _ p => seqT p.1 h1) (fun i v H' hv p => ?_) fun H' p => let ⟨p1, _, _, acc, p2, p3⟩ := p; q Dl H1 H' acc _ rfl s1 hD S1 p1 p2 ?_
    · obtain ⟨hi', rd⟩ := itm h2 hv
      exact lc_turn (dv := atD gd L) h0 hD hz hi' he' kt' p (Rp.mono (p.see hD) rd)
    · rw [fin, ← hl]
      exact p3
end
end Tp
namespace Tp
open PySem L2
section
variable {X : Cx} {B : Bx} {W : WX} {r : List Sl} {e : Expr} {ds : List D} {pos p : Pos} {k : Nat}
theorem map_mapB {α : Type} (l : List α) (h : α → Bool) : (l.map fun i => PyData.bool (h i)) = (l.map h).map PyData.bool := by rw [List.map_map]; rfl
theorem map_mapI {α : Type} (l : List α) (h : α → Int) : (l.map fun i => PyData.int (h i)) = (l.map h).map PyData.int := by rw [List.map_map]; rfl
theorem evAllR {h : Nat → Bool} {n : Nat} (g : Go X W k) (he : EV X B e r (.list (lcOut (fun _ => true) (fun i => .bool (h i)) n))) (hm : X.mg "all" = none) (hg : Gl X "all" := by rfl) (hst : NSt X e := by exact fun _ => rfl) : EV X B (.Call (.Name "all" p) [e] [] pos) r (.bool ((List.range n).all h)) := by
  rw [lcOut_all, map_mapB] at he
  have z := evAll g he hm hg hst (pos := pos) (p := p)
  rw [List.all_map] at z
  exact z
theorem evAnyR {h : Nat → Bool} {n : Nat} (g : Go X W k) (he : EV X B e r (.list (lcOut (fun _ => true) (fun i => .bool (h i)) n))) (hm : X.mg "any" = none) (hg : Gl X "any" := by rfl) (hst : NSt X e := by exact fun _ => rfl) : EV X B (.Call (.Name "any" p) [e] [] pos) r (.bool ((List.range n).any h)) := by
  rw [lcOut_all, map_mapB] at he
  have z := evAny g he hm hg hst (pos := pos) (p := p)
  rw [List.any_map] at z
  exact z
theorem evAllQ {α : Type} {ds : List α} {h : α → Bool} (g : Go X W k) (he : EV X B e r (.list (ds.map fun d => .bool (h d)))) (hm : X.mg "all" = none) (hg : Gl X "all" := by rfl) (hst : NSt X e := by exact fun _ => rfl) : EV X B (.Call (.Name "all" p) [e] [] pos) r (.bool (ds.all h)) := by
  rw [map_mapB] at he
  have z := evAll g he hm hg hst (pos := pos) (p := p)
  rw [List.all_map] at z
  exact z
theorem evAnyQ {α : Type} {ds : List α} {h : α → Bool} (g : Go X W k) (he : EV X B e r (.list (ds.map fun d => .bool (h d)))) (hm : X.mg "any" = none) (hg : Gl X "any" := by rfl) (hst : NSt X e := by exact fun _ => rfl) : EV X B (.Call (.Name "any" p) [e] [] pos) r (.bool (ds.any h)) := by
  rw [map_mapB] at he
  have z := evAny g he hm hg hst (pos := pos) (p := p)
  rw [List.any_map] at z
  exact z
theorem evSumQ {α : Type} {ds : List α} {h : α → Int} (g : Go X W k) (he : EV X B e r (.list (ds.map fun d => .int (h d)))) (hm : X.mg "sum" = none) (hg : Gl X "sum" := by rfl) (hst : NSt X e := by exact fun _ => rfl) : EV X B (.Call (.Name "sum" p) [e] [] pos) r (.int (ds.map h).sum) := by
  rw [map_mapI] at he
  exact evSum g he hm hg hst
end

mutual
inductive Sm : Nat → D → Prop
  | non {n : Nat} : Sm n .none
  | bl {n : Nat} {b : Bool} : Sm n (.bool b)
  | int {n : Nat} {i : Int} : Sm n (.int i)
  | str {n : Nat} {x : Str} : Sm n (.str x)
  | tup {n : Nat} {ds : List D} : ds.length ≤ 100000 → SmA n ds → Sm (n + 1) (.tuple ds)
inductive SmA : Nat → List D → Prop
  | nil {n : Nat} : SmA n []
  | cons {n : Nat} {d : D} {ds : List D} : Sm n d → SmA n ds → SmA n (d :: ds)
end
theorem SmA.at : ∀ {n : Nat} {ds : List D} {i : Nat}, SmA n ds → i < ds.length → Sm n (ds.getD i .none)
  | _, _, _, .nil, h => by simp at h
  | _, _, 0, .cons a _, _ => a
  | _, _, i + 1, .cons _ b, h => SmA.at (i := i) b (by simpa using h)
theorem SmA.map {α : Type} {n : Nat} {f : α → D} (h : ∀ x, Sm n (f x)) : ∀ (l : List α), SmA n (l.map f)
  | [] => .nil
  | _ :: l => .cons (h _) (SmA.map h l)
theorem SmA.app {n : Nat} : ∀ {a b : List D}, SmA n a → SmA n b → SmA n (a ++ b)
  | _, _, .nil, h => h
  | _, _, .cons h a, b => .cons h (SmA.app a b)
mutual
theorem Sm.up : ∀ {n : Nat} {d : D}, Sm n d → Sm (n + 1) d
  | _, _, .non => .non
  | _, _, .bl => .bl
  | _, _, .int => .int
  | _, _, .str => .str
  | _, _, .tup l h => .tup l (SmA.up h)
theorem SmA.up : ∀ {n : Nat} {ds : List D}, SmA n ds → SmA (n + 1) ds
  | _, _, .nil => .nil
  | _, _, .cons h a => .cons (Sm.up h) (SmA.up a)
end
theorem all_true (n : Nat) : ((List.range n).all fun _ => true) = true := by simp
end Tp

namespace Tp
open PySem L2
/-! ### ghosts -/
section
variable {K : PySem.W.Frag} {Hh Hh' H H' : Hp}
theorem ItA.len {vs : List V} {is : List It} (h : ItA K Hh vs is) : vs.length = is.length := by
  induction h with
  | nil => rfl
  | cons _ _ ih => exact congrArg (· + 1) ih
theorem ItA.das {vs : List V} : ∀ {ds : List D}, ItA K Hh vs (ds.map It.da) → RpA K Hh vs ds := by
  induction vs with
  | nil => intro ds h; cases ds with
    | nil => exact .nil
    | cons d ds => cases h
  | cons v vs ih => intro ds h; cases ds with
    | nil => cases h
    | cons d ds => cases h with
      | cons a b => exact .cons a (ih b)
theorem RpA.its {vs : List V} : ∀ {ds : List D}, RpA K Hh vs ds → ItA K Hh vs (ds.map It.da) := by
  induction vs with
  | nil => intro ds h; cases h; exact .nil
  | cons v vs ih => intro ds h; cases h with
    | cons a b => exact .cons a (ih b)
theorem ItA.get {vs : List V} {is : List It} {i : Nat} {t : It} (h : ItA K Hh vs is) (e : is[i]? = some t) : ∃ v, vs[i]? = some v ∧ ItOk K Hh v t := by
  induction h generalizing i with
  | nil => simp at e
  | cons a b ih => cases i with
    | zero => simp at e; subst e; exact ⟨_, rfl, a⟩
    | succ i => simpa using ih (i := i) (by simpa using e)
theorem ItA.app {vs ws : List V} {is js : List It} (h : ItA K Hh vs is) (g : ItA K Hh ws js) : ItA K Hh (vs ++ ws) (is ++ js) := by
  induction h with
  | nil => exact g
  | cons a b ih => exact .cons a ih
theorem ItA.erase {vs : List V} {is : List It} (n : Nat) (h : ItA K Hh vs is) : ItA K Hh (vs.eraseIdx n) (is.eraseIdx n) := by
  induction h generalizing n with
  | nil => exact .nil
  | cons a b ih => cases n with
    | zero => exact b
    | succ n => exact .cons a (ih n)
theorem ItK.lookup {vs : List (Str × V)} {is : List (Str × It)} {f : Str} {t : It} (h : ItK K Hh vs is) (e : is.lookup f = some t) : ∃ v, vs.lookup f = some v ∧ ItOk K Hh v t := by
  induction h with
  | nil => simp at e
  | @cons k v vs i is a b ih =>
    rw [List.lookup_cons] at e ⊢
    cases hk : f == k with
    | true => rw [hk] at e; cases e; exact ⟨v, rfl, a⟩
    | false => rw [hk] at e; exact ih e
theorem ItK.none {vs : List (Str × V)} {is : List (Str × It)} {f : Str} (h : ItK K Hh vs is) (e : is.lookup f = Option.none) : vs.lookup f = Option.none := by
  induction h with
  | nil => rfl
  | @cons k v vs i is a b ih =>
    rw [List.lookup_cons] at e ⊢
    cases hk : f == k with
    | true => rw [hk] at e; cases e
    | false => rw [hk] at e; exact ih e
theorem ItK.len {κ : Type} {vs : List (κ × V)} {is : List (κ × It)} (h : ItK K Hh vs is) : vs.length = is.length := by
  induction h with
  | nil => rfl
  | cons _ _ ih => exact congrArg (· + 1) ih
/-- a field stored -/
def putI' (f : Str) (t : It) : List (Str × It) → List (Str × It)
  | [] => [(f, t)]
  | (g, y) :: r => if g = f then (g, t) :: r else (g, y) :: putI' f t r
theorem ItK.put {vs : List (Str × V)} {is : List (Str × It)} {f : Str} {v : V} {t : It} (h : ItK K Hh vs is) (a : ItOk K Hh v t) : ItK K Hh (putF f v vs) (putI' f t is) := by
  induction h with
  | nil => exact .cons a .nil
  | @cons k w vs i is b c ih =>
    unfold putF putI'
    by_cases e : k = f
    · rw [if_pos e, if_pos e]; exact .cons a c
    · rw [if_neg e, if_neg e]; exact .cons b ih
theorem lookup_at {α : Type} : ∀ {fs : List (Str × α)} {k : Nat} {f : Str} {v : α} {ks : List Str}, fs.map (·.1) = ks → fs[k]? = some (f, v) → (ks.take k).contains f = false → fs.lookup f = some v
  | [], _, _, _, _, _, h, _ => by simp at h
  | (g, y) :: fs, 0, f, v, ks, hk, h, _ => by
    simp at h
    obtain ⟨h1, h2⟩ := h
    subst h1 h2
    rw [List.lookup_cons, beq_self_eq_true]
  | (g, y) :: fs, k + 1, f, v, ks, hk, h, hn => by
    subst hk
    have hn : (g :: (fs.map (·.1)).take k).contains f = false := hn
    rw [List.contains_cons] at hn
    have hn := (Bool.or_eq_false_iff.mp hn)
    rw [List.lookup_cons, hn.1]
    exact lookup_at (k := k) rfl (by simpa using h) hn.2
theorem lookup_no {α : Type} : ∀ {fs : List (Str × α)} {f : Str} {ks : List Str}, fs.map (·.1) = ks → ks.contains f = false → fs.lookup f = none
  | [], _, _, _, _ => rfl
  | (g, y) :: fs, f, ks, hk, hn => by
    subst hk
    have hn : (g :: fs.map (·.1)).contains f = false := hn
    rw [List.contains_cons] at hn
    have hn := (Bool.or_eq_false_iff.mp hn)
    rw [List.lookup_cons, hn.1]
    exact lookup_no rfl hn.2
theorem put_at : ∀ {fs : List (Str × It)} {k : Nat} {f : Str} {v t : It} {ks : List Str}, fs.map (·.1) = ks → fs[k]? = some (f, v) → (ks.take k).contains f = false → putI' f t fs = fs.set k (f, t)
  | [], _, _, _, _, _, _, h, _ => by simp at h
  | (g, y) :: fs, 0, f, v, t, ks, hk, h, _ => by
    simp at h
    obtain ⟨h1, h2⟩ := h
    subst h1 h2
    unfold putI'
    rw [if_pos rfl]
    rfl
  | (g, y) :: fs, k + 1, f, v, t, ks, hk, h, hn => by
    subst hk
    have hn : (g :: (fs.map (·.1)).take k).contains f = false := hn
    rw [List.contains_cons] at hn
    have hn := (Bool.or_eq_false_iff.mp hn)
    have ne : ¬ g = f := fun e => by rw [e, beq_self_eq_true] at hn; exact absurd hn.1 (by decide)
    unfold putI'
    rw [if_neg ne, put_at (k := k) (v := v) rfl (by simpa using h) hn.2]
    rfl
theorem put_new {t : It} : ∀ {fs : List (Str × It)} {f : Str} {ks : List Str}, fs.map (·.1) = ks → ks.contains f = false → putI' f t fs = fs ++ [(f, t)]
  | [], _, _, _, _ => rfl
  | (g, y) :: fs, f, ks, hk, hn => by
    subst hk
    have hn : (g :: fs.map (·.1)).contains f = false := hn
    rw [List.contains_cons] at hn
    have hn := (Bool.or_eq_false_iff.mp hn)
    have ne : ¬ g = f := fun e => by rw [e, beq_self_eq_true] at hn; exact absurd hn.1 (by decide)
    unfold putI'
    rw [if_neg ne, put_new (fs := fs) rfl hn.2]
    rfl
theorem GOk.get : ∀ {gl : List (Addr × Nd)} {j : Nat} {a : Addr} {n : Nd}, GOk K Hh H gl → gl[j]? = some (a, n) → NdOk K Hh H a n
  | [], _, _, _, _, h => by simp at h
  | (b, m) :: g, 0, a, n, x, h => by simp at h; obtain ⟨h1, h2⟩ := h; subst h1 h2; exact x.1
  | (b, m) :: g, j + 1, a, n, x, h => GOk.get (j := j) x.2 (by simpa using h)
def own1 (a : Addr) : Nd → List Addr
  | .ob _ dx _ => [a, dx]
  | _ => [a]
theorem gown_cons (a : Addr) (n : Nd) (g : List (Addr × Nd)) : gown ((a, n) :: g) = own1 a n ++ gown g := by
  cases n <;> rfl
theorem gown_app : ∀ (g h : List (Addr × Nd)), gown (g ++ h) = gown g ++ gown h
  | [], h => rfl
  | (a, n) :: g, h => by
    rw [List.cons_append, gown_cons, gown_cons, gown_app g h, List.append_assoc]
theorem gown_at : ∀ {gl : List (Addr × Nd)} {j : Nat} {a : Addr} {n : Nd}, gl[j]? = some (a, n) → ∀ p ∈ own1 a n, p ∈ gown gl
  | [], _, _, _, h => by simp at h
  | (b, m) :: g, 0, a, n, h => by
    simp at h; obtain ⟨h1, h2⟩ := h; subst h1 h2
    intro p hp
    rw [gown_cons]; exact List.mem_append_left _ hp
  | (b, m) :: g, j + 1, a, n, h => fun p hp => by
    rw [gown_cons]; exact List.mem_append_right _ (gown_at (j := j) (by simpa using h) p hp)
theorem gown_set {n n' : Nd} {a : Addr} (e : own1 a n' = own1 a n) : ∀ {gl : List (Addr × Nd)} {j : Nat}, gl[j]? = some (a, n) → gown (gl.set j (a, n')) = gown gl
  | [], _, h => by simp at h
  | (b, m) :: g, 0, h => by
    simp at h; obtain ⟨h1, h2⟩ := h; subst h1 h2
    show gown ((b, n') :: g) = _
    rw [gown_cons, gown_cons, e]
  | (b, m) :: g, j + 1, h => by
    show gown ((b, m) :: g.set j (a, n')) = _
    rw [gown_cons, gown_cons, gown_set e (j := j) (by simpa using h)]
theorem own1_head (a : Addr) (n : Nd) : a ∈ own1 a n := by cases n <;> exact List.mem_cons_self
/-- an owned object changes, at a -/
theorem GOk.set {n n' : Nd} {a : Addr} (hh : Same Hh Hh') (hu : ∀ b, b ≠ a → H' b = H b) (e : own1 a n' = own1 a n) (hn : NdOk K Hh' H' a n') : ∀ {gl : List (Addr × Nd)} {j : Nat}, (gown gl).Nodup → GOk K Hh H gl → gl[j]? = some (a, n) → GOk K Hh' H' (gl.set j (a, n'))
  | [], _, _, _, h => by simp at h
  | (b, m) :: g, 0, nd, x, h => by
    simp at h; obtain ⟨h1, h2⟩ := h; subst h1 h2
    rw [gown_cons] at nd
    refine ⟨hn, GOk.mono hh (fun p hp => hu p fun z => ?_) x.2⟩
    exact (List.nodup_append.mp nd).2.2 b (own1_head b m) p hp z.symm
  | (b, m) :: g, j + 1, nd, x, h => by
    rw [gown_cons] at nd
    have hj : g[j]? = some (a, n) := by simpa using h
    have ha : a ∈ gown g := gown_at hj a (own1_head a n)
    have ih := GOk.set hh hu e hn (gl := g) (j := j) (List.nodup_append.mp nd).2.1 x.2 hj
    have hb : GOk K Hh H [(b, m)] := ⟨x.1, trivial⟩
    have hb' : GOk K Hh' H' [(b, m)] := GOk.mono hh (fun p hp => hu p fun z => by
      have hp' : p ∈ own1 b m := by rw [gown_cons] at hp; simpa [gown] using hp
      exact (List.nodup_append.mp nd).2.2 p hp' a ha z) hb
    exact ⟨hb'.1, ih⟩
theorem GOk.app : ∀ {g h : List (Addr × Nd)}, GOk K Hh H g → GOk K Hh H h → GOk K Hh H (g ++ h)
  | [], _, _, b => b
  | _ :: _, _, a, b => ⟨a.1, GOk.app a.2 b⟩
end
/-- the ghosts change -/
theorem SOk.gset {K : PySem.W.Frag} {B : Bx} {r : List Sl} {H H' : Hp} {σ : St} {iG : Nat} {gl gl' : List (Addr × Nd)} (S : SOk K B r H σ) (hG : r[iG]? = some (.gs gl)) (h1 : ∀ a o, H a = some o → a ∉ gown gl → Ext1 o (H' a)) (h2 : (gown gl').Nodup) (h3 : ∀ p ∈ gown gl', p ∈ gown gl ∨ H p = none)
    (h4 : Same (hid B r H) (hid B (r.set iG (.gs gl')) H') → GOk K (hid B (r.set iG (.gs gl')) H') H' gl') : SOk K B (r.set iG (.gs gl')) H' σ := by
  have inG : ∀ p ∈ gown gl, p ∈ own r := fun p hp => mem_own hG hp
  have sub : ∀ p ∈ own (r.set iG (.gs gl')), p ∈ own r ∨ H p = none := fun p hp => (own_set_mem hp).elim (fun z => (h3 p z).elim (fun y => .inl (inG p y)) .inr) .inl
  have hh : Same (hid B r H) (hid B (r.set iG (.gs gl')) H') := fun a u e => by
    have e : hide H (own r ++ B.ps) a = some u := e
    show Ext1 u (hide H' (own (r.set iG (.gs gl')) ++ B.ps) a)
    by_cases ha : a ∈ own r ++ B.ps
    · rw [hide_in ha] at e; cases e
    · rw [hide_out ha] at e
      have na : a ∉ own r := fun z => ha (List.mem_append_left _ z)
      rw [hide_out fun z => (List.mem_append.mp z).elim (fun y => (sub a y).elim na fun w => by rw [w] at e; cases e) fun y => ha (List.mem_append_right _ y)]
      exact h1 a u e fun z => na (inG a z)
  refine ⟨fun a o e => (S.ex a o e).trans fun u eu => h1 a u eu fun z => ?_, S.old, fun p hp => ?_, ?_, by rw [List.length_set]; exact S.len, fun j t e => ?_, fun t ht => ?_, GOk.mono hh (fun q hq => ?_) S.gr, S.gp⟩
  · rw [S.new a (inG a z)] at e; cases e
  · rcases sub p hp with z | z
    · exact S.new p z
    · cases e0 : B.H0 p with
      | none => rfl
      | some u => have := S.ex p u e0; rw [z] at this; exact this.no.elim
  · -- nodup: the other slots, the new ghosts
    have key : ∀ {q : List Sl} {i : Nat}, q[i]? = some (.gs gl) → (own q).Nodup → (∀ p ∈ own q, p ∈ own r) → (own (q.set i (.gs gl'))).Nodup := by
      intro q
      induction q with
      | nil => intro i h; simp at h
      | cons a q ih =>
        intro i h nd hin
        cases i with
        | zero =>
          simp at h; subst h
          show (gown gl' ++ own q).Nodup
          have nd : (gown gl ++ own q).Nodup := nd
          obtain ⟨n1, n2, n3⟩ := List.nodup_append.mp nd
          refine List.nodup_append.mpr ⟨h2, n2, fun x hx y hy e => ?_⟩
          subst e
          rcases h3 x hx with z | z
          · exact n3 x z x hy rfl
          · obtain ⟨u, eu, nt⟩ := S.there (hin x (List.mem_append_right _ hy))
            rw [z] at eu; cases eu
        | succ i =>
          have nd : (ownOf a ++ own q).Nodup := nd
          obtain ⟨n1, n2, n3⟩ := List.nodup_append.mp nd
          have hi : q[i]? = some (.gs gl) := by simpa using h
          refine List.nodup_append.mpr ⟨n1, ih hi n2 (fun p hp => hin p (List.mem_append_right _ hp)), fun x hx y hy e => ?_⟩
          subst e
          rcases own_set_mem hy with z | z
          · rcases h3 x z with w | w
            · exact n3 x hx x (mem_own hi w) rfl
            · obtain ⟨u, eu, nt⟩ := S.there (hin x (List.mem_append_left _ hx))
              rw [w] at eu; cases eu
          · exact n3 x hx x z rfl
    exact key hG S.nd fun p hp => hp
  · by_cases hj : iG = j
    · subst hj
      have hi : iG < r.length := (List.getElem?_eq_some_iff.mp hG).1
      rw [List.getElem?_set_self hi] at e
      cases e
      exact h4 hh
    · rw [List.getElem?_set_ne hj] at e
      refine (S.sl j t e).mono hh fun q hq => ?_
      obtain ⟨u, eu, nt⟩ := (S.sl j t e).there hq
      rw [eu]
      refine (h1 q u eu fun z => hj ?_).nt nt
      exact own_apart S.nd hG e z hq
  · refine (S.tb t ht).ext fun o eo => h1 t o eo fun z => ?_
    obtain ⟨u, eu, nt⟩ := S.there (inG t z)
    exact (S.tb t ht).ne eu nt rfl
  · obtain ⟨u, eu, nt⟩ := GOk.there S.gr hq
    rw [eu]
    exact (h1 q u eu fun z => S.grn hq (S.new q (inG q z))).nt nt
theorem SOk.ghosts {K : PySem.W.Frag} {B : Bx} {r : List Sl} {H : Hp} {σ : St} {iG : Nat} {gl : List (Addr × Nd)} (S : SOk K B r H σ) (hG : r[iG]? = some (.gs gl)) : GOk K (hid B r H) H gl ∧ (gown gl).Nodup := by
  refine ⟨S.sl iG _ hG, ?_⟩
  have key : ∀ {q : List Sl} {i : Nat}, q[i]? = some (.gs gl) → (own q).Nodup → (gown gl).Nodup := by
    intro q
    induction q with
    | nil => intro i h; simp at h
    | cons a q ih =>
      intro i h nd
      have nd : (ownOf a ++ own q).Nodup := nd
      obtain ⟨n1, n2, n3⟩ := List.nodup_append.mp nd
      cases i with
      | zero => simp at h; subst h; exact n1
      | succ i => exact ih (i := i) (by simpa using h) n2
  exact key hG S.nd
end Tp

namespace Tp
open PySem L2
/-! ### objects: attributes -/
section
variable {X : Cx} {B : Bx} {W : WX} {P : Po} {r q : List Sl} {e a b c o tg : Expr} {es : List Expr} {rest body orelse : List Stmt} {d : D} {ds : List D} {pos pos' p1 : Pos} {k kk : Nat} {x f : Str} {gl : List (Addr × Nd)} {p C dx l : Addr} {fs fs' : List (Str × It)} {t : It}
def ER (X : Cx) (B : Bx) (e : Expr) (r : List Sl) (a : Addr) : Prop := ∃ te, PE X e te ∧ ∀ H σ, SOk X.K B r H σ → ∀ Q : VK, (∀ H', Same H H' → Q (.ref a) H') → te σ H Q
theorem erV (i : Nat) {a : Addr} (h : r[i]? = some (.rf a)) (hN : X.N[i]? = some x := by rfl) (hv : Vis X.env.scope x := by first | exact Or.inl rfl | exact Or.inr (Or.inl rfl) | exact Or.inr (Or.inr rfl)) (hd : (x == ("__debug__" : Str)) = false := by decide) (hcd : (x == ("__classdict__" : Str)) = false := by decide) : ER X B (.Name x pos) r a :=
  ⟨_, pe_var hN hv hd hcd, fun H σ S Q q => ⟨_, S.sl i _ h, q H (Same.refl H)⟩⟩
/-- the field f of an object of the class at C -/
structure FdAt (K : PySem.W.Frag) (C : Addr) (fs : List (Str × It)) (f : Str) (t : It) : Prop where
  look : fs.lookup f = some t
  cl : Cls K C
  na : NoAttr K C f
theorem evFld (iG j : Nat) (he : ER X B e r p) (hG : r[iG]? = some (.gs gl)) (hj : gl[j]? = some (p, .ob C dx fs)) (hf : FdAt X.K C fs f (.da d)) (hb : attributeBase e f X.env (eval e X.env) = eval e X.env := by rfl) : EV X B (.Attribute e f pos) r d := by
  obtain ⟨te, pp, kk⟩ := he
  refine ⟨_, pe_fld pp hb, fun H σ S Q q => kk H σ S _ fun H1 s1 => ?_⟩
  obtain ⟨vs, e1, e2, y⟩ := ((S.mono s1).ghosts hG).1.get hj
  obtain ⟨v, l1, rv⟩ := y.lookup hf.look
  exact ⟨p, C, dx, vs, v, rfl, e1, hf.cl, hf.na, l1, q v H1 s1 rv⟩
theorem erFld (iG j : Nat) (he : ER X B e r p) (hG : r[iG]? = some (.gs gl)) (hj : gl[j]? = some (p, .ob C dx fs)) (hf : FdAt X.K C fs f (.rf l)) (hb : attributeBase e f X.env (eval e X.env) = eval e X.env := by rfl) : ER X B (.Attribute e f pos) r l := by
  obtain ⟨te, pp, kk⟩ := he
  refine ⟨_, pe_fld pp hb, fun H σ S Q q => kk H σ S _ fun H1 s1 => ?_⟩
  obtain ⟨vs, e1, e2, y⟩ := ((S.mono s1).ghosts hG).1.get hj
  obtain ⟨v, l1, rv⟩ := y.lookup hf.look
  cases rv
  exact ⟨p, C, dx, vs, _, rfl, e1, hf.cl, hf.na, l1, q H1 s1⟩
/-- a list that is a ghost -/
theorem ER.list (iG m : Nat) (he : ER X B e r l) (hG : r[iG]? = some (.gs gl)) (hj : gl[m]? = some (l, Nd.ls (ds.map It.da))) : ES X B e r false ds := by
  obtain ⟨te, pp, kk⟩ := he
  refine ⟨te, pp, fun H σ S Q q => kk H σ S _ fun H1 s1 => ?_⟩
  obtain ⟨vs, e1, y⟩ := ((S.mono s1).ghosts hG).1.get hj
  exact q l vs H1 s1 (SqL.of e1) y.das
theorem SOk.fput {iG j : Nat} {K : PySem.W.Frag} {H : Hp} {σ : St} {vs : List (Str × V)} {y : V} (S : SOk K B r H σ) (hG : r[iG]? = some (.gs gl)) (hj : gl[j]? = some (p, .ob C dx fs)) (e : H p = some (.ins C dx vs)) (iv : ItOk K (hid B r H) y t) :
    SOk K B (r.set iG (.gs (gl.set j (p, .ob C dx (putI' f t fs))))) (upd H p (.ins C dx (putF f y vs))) σ := by
  obtain ⟨G, nd⟩ := S.ghosts hG
  have hs : gown (gl.set j (p, .ob C dx (putI' f t fs))) = gown gl := gown_set (n := .ob C dx fs) (n' := .ob C dx (putI' f t fs)) rfl hj
  have hp : p ∈ gown gl := gown_at hj p List.mem_cons_self
  obtain ⟨vs', e', e2, y'⟩ := G.get hj
  rw [e] at e'
  cases e'
  have ne : dx ≠ p := by
    have key : ∀ {g : List (Addr × Nd)} {i : Nat}, g[i]? = some (p, .ob C dx fs) → (gown g).Nodup → dx ≠ p := by
      intro g
      induction g with
      | nil => intro i h; simp at h
      | cons a g ih =>
        intro i h nd
        obtain ⟨a, n⟩ := a
        rw [gown_cons] at nd
        cases i with
        | zero =>
          simp at h
          obtain ⟨h1, h2⟩ := h
          subst h1 h2
          have := (List.nodup_cons.mp (List.nodup_append.mp nd).1).1
          intro z
          exact this (z ▸ List.mem_cons_self)
        | succ i => exact ih (i := i) (by simpa using h) (List.nodup_append.mp nd).2.1
    exact key hj nd
  refine S.gset hG (fun a o ea ha => .inl ((upd_ne fun z => ha (by rw [z]; exact hp)).trans ea)) (by rw [hs]; exact nd) (fun q hq => .inl (hs ▸ hq)) fun hh => ?_
  exact GOk.set (n := .ob C dx fs) (n' := .ob C dx (putI' f t fs)) hh (fun b hb => upd_ne hb) rfl ⟨_, upd_same, (upd_ne ne).trans e2, (y'.mono hh).put (iv.mono hh)⟩ nd G hj
theorem SOk.gadd {iG : Nat} {K : PySem.W.Frag} {H : Hp} {σ : St} {vs : List V} {is : List It} (S : SOk K B r H σ) (hG : r[iG]? = some (.gs gl)) (hl : H l = none) (iv : ItA K (hid B r H) vs is) :
    SOk K B (r.set iG (.gs (gl ++ [(l, Nd.ls is)]))) (upd H l (.lst vs)) σ := by
  obtain ⟨G, nd⟩ := S.ghosts hG
  have nl : l ∉ gown gl := fun z => by obtain ⟨u, eu, nt⟩ := GOk.there G z; rw [hl] at eu; cases eu
  have hs : gown (gl ++ [(l, Nd.ls is)]) = gown gl ++ [l] := gown_app _ _
  refine S.gset hG (fun a o ea ha => by rw [upd_ne (ne_of_none ea hl)]; exact .inl ea) (by rw [hs]; exact List.nodup_append.mpr ⟨nd, by simp, fun x hx y hy e => nl (by cases List.mem_singleton.mp hy; exact e ▸ hx)⟩) (fun q hq => by
    rw [hs] at hq
    exact (List.mem_append.mp hq).elim .inl fun z => .inr (List.mem_singleton.mp z ▸ hl)) fun hh => ?_
  exact GOk.app (GOk.mono hh (fun q hq => upd_ne fun z => nl (z ▸ hq)) G) ⟨⟨_, upd_same, iv.mono hh⟩, trivial⟩
theorem set_set {α : Type} (l : List α) (i : Nat) (a b : α) : (l.set i a).set i b = l.set i b := List.set_set ..
theorem get_set {i : Nat} {s s' : Sl} (h : r[i]? = some s) : (r.set i s')[i]? = some s' := List.getElem?_set_self (List.getElem?_eq_some_iff.mp h).1
/-- o.f = e, data -/
theorem sv_fld (iG j : Nat) (he : EV X B e r d) (ho : ER X B o r p) (hG : r[iG]? = some (.gs gl)) (hj : gl[j]? = some (p, .ob C dx fs)) (cl : Cls X.K C) (na : NoAttr X.K C f) (hz : fs.length < 1000) (hp : putI' f (.da d) fs = fs') (h : SV X B W rest (r.set iG (.gs (gl.set j (p, .ob C dx fs')))) P) (hs : swapsWith e (some (.Attribute o f pos')) pos.line X.env = pure false := by rfl) :
    SV X B W (.Assign [.Attribute o f pos'] e pos :: rest) r P := fun H σ E S kt => by
  obtain ⟨tv, pv, kv⟩ := he
  obtain ⟨te, pp, kk⟩ := ho
  refine ⟨_, pss_cons (ps_fld pp pv hs) wS_ok, kv H σ S _ fun y H1 s1 ry => kk H1 σ (S.mono s1) _ fun H2 s2 => ?_⟩
  have S2 := (S.mono s1).mono s2
  obtain ⟨vs, e1, e2, z⟩ := (S2.ghosts hG).1.get hj
  refine ⟨p, C, dx, vs, rfl, e1, cl, na, by rw [z.len]; exact hz, ?_⟩
  subst hp
  exact h _ σ E (S2.fput (t := .da d) hG hj e1 (ry.mono (hide_mono s2))) kt
/-- o.f = a new list -/
theorem sv_fldL (iG j : Nat) (he : EN X B e r (fun l => .ol l ds)) (ho : ∀ l, ER X B o (r.set iG (.gs (gl ++ [(l, Nd.ls (ds.map It.da))]))) p) (hG : r[iG]? = some (.gs gl)) (hj : gl[j]? = some (p, .ob C dx fs)) (cl : Cls X.K C) (na : NoAttr X.K C f) (hz : fs.length < 1000) (hp : ∀ l, putI' f (It.rf l) fs = fs' ++ [(f, It.rf l)])
    (h : ∀ l, SV X B W rest (r.set iG (.gs ((gl ++ [(l, Nd.ls (ds.map It.da))]).set j (p, .ob C dx (fs' ++ [(f, It.rf l)]))))) P) (hs : swapsWith e (some (.Attribute o f pos')) pos.line X.env = pure false := by rfl) :
    SV X B W (.Assign [.Attribute o f pos'] e pos :: rest) r P := fun H σ E S kt => by
  obtain ⟨tv, pv, kv⟩ := he
  -- the object's reading, the same for all places of the new list
  let te : TE := fun σ H Q => ∃ t, PE X o t ∧ t σ H Q
  have pp : PE X o te := wE_ok
  refine ⟨_, pss_cons (ps_fld pp pv hs) wS_ok, kv H σ S _ fun l ob H1 s1 hl _ hv => ?_⟩
  obtain ⟨e0, vs, e1, ra⟩ := hv
  have eo : ob = .lst vs := by
    have : upd H1 l ob l = some (.lst vs) := e1
    rw [upd_same] at this
    exact Option.some.inj this
  subst eo
  have S1 := (S.mono s1).gadd (iG := iG) hG hl (RpA.its ra)
  obtain ⟨t0, p0, k0⟩ := ho l
  refine ⟨t0, p0, k0 _ σ S1 _ fun H2 s2 => ?_⟩
  have S2 := S1.mono s2
  have hG2 := get_set (s' := .gs (gl ++ [(l, Nd.ls (ds.map It.da))])) hG
  have hj2 : (gl ++ [(l, Nd.ls (ds.map It.da))])[j]? = some (p, .ob C dx fs) := by
    rw [List.getElem?_append_left (List.getElem?_eq_some_iff.mp hj).1]; exact hj
  obtain ⟨ws, e3, e4, z⟩ := (S2.ghosts hG2).1.get hj2
  refine ⟨p, C, dx, ws, rfl, e3, cl, na, by rw [z.len]; exact hz, ?_⟩
  have S3 := S2.fput (f := f) (t := It.rf l) (y := .ref l) hG2 hj2 e3 rfl
  rw [set_set, hp l] at S3
  exact h l _ σ E S3 kt
/-- o.f += e, o.f -= e -/
theorem sv_fldA (iG j : Nat) {i0 i1 : Int} (he : EV X B e r (.int i1)) (ho : ER X B o r p) (hG : r[iG]? = some (.gs gl)) (hj : gl[j]? = some (p, .ob C dx fs)) (hf : FdAt X.K C fs f (.da (.int i0))) (hz : fs.length < 1000) (hp : putI' f (.da (.int (i0 + i1))) fs = fs') (h : SV X B W rest (r.set iG (.gs (gl.set j (p, .ob C dx fs')))) P) :
    SV X B W (.AugAssign (.Attribute o f pos') .Add e pos :: rest) r P := fun H σ E S kt => by
  obtain ⟨tv, pv, kv⟩ := he
  obtain ⟨te, pp, kk⟩ := ho
  refine ⟨_, pss_cons (ps_fldaug pp pv L2.in_add) wS_ok, kk H σ S _ fun H1 s1 => ?_⟩
  obtain ⟨vs, e1, e2, z⟩ := ((S.mono s1).ghosts hG).1.get hj
  obtain ⟨v, l1, rv⟩ := z.lookup hf.look
  cases rv
  refine ⟨p, C, dx, vs, _, rfl, e1, hf.cl, hf.na, l1, kv H1 σ (S.mono s1) _ fun y H2 s2 ry => ?_⟩
  cases ry
  have S2 := (S.mono s1).mono s2
  refine ⟨i0, i1, rfl, rfl, dx, vs, s2.k e1, by rw [z.len]; exact hz, ?_⟩
  subst hp
  exact h _ σ E (S2.fput (t := .da (.int (i0 + i1))) hG hj (s2.k e1) (.int _)) kt
theorem sv_fldS (iG j : Nat) {i0 i1 : Int} (he : EV X B e r (.int i1)) (ho : ER X B o r p) (hG : r[iG]? = some (.gs gl)) (hj : gl[j]? = some (p, .ob C dx fs)) (hf : FdAt X.K C fs f (.da (.int i0))) (hz : fs.length < 1000) (hp : putI' f (.da (.int (i0 - i1))) fs = fs') (h : SV X B W rest (r.set iG (.gs (gl.set j (p, .ob C dx fs')))) P) :
    SV X B W (.AugAssign (.Attribute o f pos') .Sub e pos :: rest) r P := fun H σ E S kt => by
  obtain ⟨tv, pv, kv⟩ := he
  obtain ⟨te, pp, kk⟩ := ho
  refine ⟨_, pss_cons (ps_fldaug pp pv L2.in_sub) wS_ok, kk H σ S _ fun H1 s1 => ?_⟩
  obtain ⟨vs, e1, e2, z⟩ := ((S.mono s1).ghosts hG).1.get hj
  obtain ⟨v, l1, rv⟩ := z.lookup hf.look
  cases rv
  refine ⟨p, C, dx, vs, _, rfl, e1, hf.cl, hf.na, l1, kv H1 σ (S.mono s1) _ fun y H2 s2 ry => ?_⟩
  cases ry
  have S2 := (S.mono s1).mono s2
  refine ⟨i0, i1, rfl, rfl, dx, vs, s2.k e1, by rw [z.len]; exact hz, ?_⟩
  subst hp
  exact h _ σ E (S2.fput (t := .da (.int (i0 - i1))) hG hj (s2.k e1) (.int _)) kt
/-- a ghost list turns -/
theorem SOk.lturn {iG m : Nat} {K : PySem.W.Frag} {H : Hp} {σ : St} {ws : List V} {is js : List It} (S : SOk K B r H σ) (hG : r[iG]? = some (.gs gl)) (hj : gl[m]? = some (l, Nd.ls is)) (iv : ItA K (hid B r H) ws js) :
    SOk K B (r.set iG (.gs (gl.set m (l, Nd.ls js)))) (upd H l (.lst ws)) σ := by
  obtain ⟨G, nd⟩ := S.ghosts hG
  have hs : gown (gl.set m (l, Nd.ls js)) = gown gl := gown_set (n := .ls is) (n' := .ls js) rfl hj
  have hp : l ∈ gown gl := gown_at hj l (own1_head _ _)
  refine S.gset hG (fun a o ea ha => .inl ((upd_ne fun z => ha (by rw [z]; exact hp)).trans ea)) (by rw [hs]; exact nd) (fun q hq => .inl (hs ▸ hq)) fun hh => ?_
  exact GOk.set (n := .ls is) (n' := .ls js) hh (fun b hb => upd_ne hb) rfl ⟨_, upd_same, iv.mono hh⟩ nd G hj
/-- o.append(e), o a ghost list -/
theorem sv_appG (iG m : Nat) {pc cp : Pos} (ho : ER X B o r l) (hG : r[iG]? = some (.gs gl)) (hj : gl[m]? = some (l, Nd.ls (ds.map It.da))) (he : EV X B e r d) (hl : ds.length < 100000) (h : SV X B W rest (r.set iG (.gs (gl.set m (l, Nd.ls ((ds ++ [d]).map It.da))))) P)
    (hs : swapsWith (.Call (.Attribute o "append" pc) [e] [] cp) none pos.line X.env = pure false := by rfl) (hline : (pc.endLine == cp.line) = true := by rfl) (hst : NSt X e := by exact fun _ => rfl) (hbase : attributeBase o "append" X.env (eval o X.env) = eval o X.env := by rfl) :
    SV X B W (.Expr (.Call (.Attribute o "append" pc) [e] [] cp) pos :: rest) r P := fun H σ E S kt => by
  obtain ⟨te, pp, q⟩ := he
  obtain ⟨to, po, ko⟩ := ho
  refine ⟨_, pss_cons (ps_expr (pe_bm PySem.F.plainAttrs_list PySem.F.slot_list_append PySem.F.type_list_append mt_append po (pa_cons pp pa_nil (hst _)) (hbase := hbase) (hfew := by rw [hst]; rfl) (hline := hline) (hs := hst _) (hplain := by rfl)) hs) wS_ok, ko H σ S _ fun H1 s1 => ?_⟩
  obtain ⟨vs, y, z⟩ := ((S.mono s1).ghosts hG).1.get hj
  refine ⟨.inl ⟨rfl, _, SqL.of y⟩, q H1 σ (S.mono s1) _ fun v H2 s2 u => ?_⟩
  have y1 : H2 l = some (.lst vs) := s2.k y
  have hln : vs.length = ds.length := by rw [z.len, List.length_map]
  refine ⟨l, vs, v, rfl, rfl, y1, Nat.lt_of_lt_of_le (by rw [hln]; exact hl) (by decide : 100000 ≤ sizeLine), ?_⟩
  refine h _ σ E (((S.mono s1).mono s2).lturn hG hj ?_) kt
  rw [List.map_append]
  exact (z.mono (hide_mono s2)).app (.cons u .nil)

theorem erase_map {α β : Type} (f : α → β) : ∀ (l : List α) (n : Nat), (l.eraseIdx n).map f = (l.map f).eraseIdx n
  | [], _ => rfl
  | a :: l, 0 => rfl
  | a :: l, n + 1 => congrArg (f a :: ·) (erase_map f l n)
theorem sv_delG (iG m : Nat) {i : Int} {n : Nat} (ho : ER X B o r l) (hG : r[iG]? = some (.gs gl)) (hj : gl[m]? = some (l, Nd.ls (ds.map It.da))) (he : EV X B e r (.int i)) (hi : seqIndex? i ds.length = some n) (hb : -(2 ^ 63) ≤ i ∧ i < 2 ^ 63) (h : SV X B W rest (r.set iG (.gs (gl.set m (l, Nd.ls ((ds.eraseIdx n).map It.da))))) P) :
    SV X B W (.Delete [.Subscript o e pos'] pos :: rest) r P := fun H σ E S kt => by
  obtain ⟨te, pp, q⟩ := he
  obtain ⟨to, po, ko⟩ := ho
  refine ⟨_, pss_cons (ps_delL po pp) wS_ok, ko H σ S _ fun H1 s1 => ?_⟩
  obtain ⟨vs, y, z⟩ := ((S.mono s1).ghosts hG).1.get hj
  refine q H1 σ (S.mono s1) _ fun v H2 s2 u => ?_
  cases u
  have hln : vs.length = ds.length := by rw [z.len, List.length_map]
  refine ⟨l, vs, i, n, rfl, rfl, s2.k y, hb.1, hb.2, by rw [hln]; exact hi, ?_⟩
  refine h _ σ E (((S.mono s1).mono s2).lturn hG hj ?_) kt
  have e : (ds.eraseIdx n).map It.da = (ds.map It.da).eraseIdx n := erase_map It.da ds n
  rw [e]
  exact (z.mono (hide_mono s2)).erase n
end
end Tp

namespace Tp
open PySem L2
/-! ### objects: promises, calls -/
/-- a promise: of the arguments and the ghosts; what is wanted of the result and the ghosts behind it; of an exception -/
abbrev CtO := List It → List (Addr × Nd) → (Rs → List (Addr × Nd) → Prop) → (Addr → List (Addr × Nd) → Prop) → Prop
structure GNew (gl gl' : List (Addr × Nd)) (H H' : Hp) : Prop where
  k : ∀ a o, H a = some o → a ∉ gown gl → Ext1 o (H' a)
  nd : (gown gl').Nodup
  nw : ∀ p ∈ gown gl', p ∈ gown gl ∨ H p = none
def RsO (K : PySem.W.Frag) (Hh : Hp) (v : V) : Rs → Prop
  | .da d => Rp K Hh v d
  | .rf a => v = .ref a
  | _ => False
def isO : Rs → Bool
  | .da _ => true
  | .rf _ => true
  | _ => false
def spO (T : List Addr) (K : PySem.W.Frag) (c : CtO) : Sp := fun vs H Q E => ∃ ps gl its Po Ex, (∀ t ∈ T, TabG H t) ∧ (∀ p ∈ ps, H p ≠ none) ∧ (gown gl).Nodup ∧ (∀ p ∈ gown gl, p ∉ ps) ∧ GOk K (hide H (gown gl ++ ps)) H gl ∧ ItA K (hide H (gown gl ++ ps)) vs its ∧ c its gl Po Ex ∧
  (∀ s v gl' H', GNew gl gl' H H' → GOk K (hide H' (gown gl' ++ ps)) H' gl' → RsO K (hide H' (gown gl' ++ ps)) v s → Po s gl' → Q v H') ∧ ∀ C gl' H', GNew gl gl' H H' → GOk K (hide H' (gown gl' ++ ps)) H' gl' → Ex C gl' → E (.ref C) none H'
def itS : It → Sl
  | .da d => .im d
  | .rf a => .rf a
def iniO (N : List Str) (its : List It) (gl : List (Addr × Nd)) : List Sl := its.map itS ++ (List.replicate (N.length - its.length - 1) .no ++ [.gs gl])
theorem own_append : ∀ (a b : List Sl), own (a ++ b) = own a ++ own b
  | [], b => rfl
  | s :: a, b => by
    show ownOf s ++ own (a ++ b) = ownOf s ++ own a ++ own b
    rw [own_append a b, List.append_assoc]
theorem own_its : ∀ (its : List It), own (its.map itS) = []
  | [] => rfl
  | .da _ :: r => own_its r
  | .rf _ :: r => own_its r
theorem own_no : ∀ (n : Nat), own (List.replicate n Sl.no) = []
  | 0 => rfl
  | n + 1 => own_no n
theorem own_iniO {N : List Str} {its : List It} {gl : List (Addr × Nd)} : own (iniO N its gl) = gown gl := by
  unfold iniO
  rw [own_append, own_its, own_append, own_no]
  show [] ++ ([] ++ (gown gl ++ [])) = gown gl
  rw [List.append_nil]
  rfl
theorem sok_iniO {T : List Addr} {K : PySem.W.Frag} {H : Hp} {ps : List Addr} {gl : List (Addr × Nd)} {vs : List V} {its : List It} {N : List Str} (tb : ∀ t ∈ T, TabG H t) (hp : ∀ p ∈ ps, H p ≠ none) (nd : (gown gl).Nodup) (ap : ∀ p ∈ gown gl, p ∉ ps) (G : GOk K (hide H (gown gl ++ ps)) H gl) (A : ItA K (hide H (gown gl ++ ps)) vs its) (hl : its.length + 1 ≤ N.length) :
    SOk K ⟨hide H (gown gl), ps, T, []⟩ (iniO N its gl) H (L2.start N vs) := by
  have hlen := A.len
  refine ⟨hide_same, fun p q => ?_, fun p q => ?_, by rw [own_iniO]; exact nd, ?_, fun i s e => ?_, tb, trivial, fun p hp => by cases hp⟩
  · show hide H (gown gl) p ≠ none
    rw [hide_out fun z => ap p z q]; exact hp p q
  · rw [own_iniO] at q
    exact hide_in q
  · unfold L2.start iniO
    simp only [List.length_append, List.length_map, List.length_replicate, List.length_cons, List.length_nil]
    omega
  · show SlOk K (hide H (own (iniO N its gl) ++ ps)) H s _
    rw [own_iniO]
    unfold iniO at e
    unfold L2.start
    by_cases hi : i < its.length
    · rw [List.getElem?_append_left (by simpa using hi), List.getElem?_map] at e
      rw [List.getElem?_append_left (by simpa [hlen] using hi), List.getElem?_map]
      cases e2 : its[i]? with
      | none => rw [e2] at e; cases e
      | some t =>
        rw [e2] at e
        cases e
        obtain ⟨v, h1, h2⟩ := A.get e2
        rw [h1]
        cases t with
        | da d => exact ⟨v, rfl, h2⟩
        | rf a => cases h2; rfl
    · rw [List.getElem?_append_right (by simpa using hi)] at e
      by_cases hj : i - its.length < N.length - its.length - 1
      · rw [List.getElem?_append_left (by simpa using hj)] at e
        have : s = .no := by
          rw [List.getElem?_replicate] at e
          split at e
          · cases e; rfl
          · cases e
        subst this
        trivial
      · rw [List.getElem?_append_right (by simpa using hj)] at e
        have : s = .gs gl := by
          cases hz : i - (List.map itS its).length - (List.replicate (N.length - its.length - 1) Sl.no).length with
          | zero => rw [hz] at e; cases e; rfl
          | succ n => rw [hz] at e; simp at e
        subst this
        exact G
theorem fn_o {P : Program} {w : World} {T : List Addr} {K : PySem.W.Frag} {mg : Str → Option Value} {base : Heap} {x qual : Str} {st : Stmt} {f : Addr} {fd : FuncData} {N ps : List Str} {k : Nat} {c : CtO} (iG : Nat) (F : Fun K x qual st f fd) (S : FnScope N ps (defScope st))
    (hl : ∀ its gl Q E, c its gl Q E → its.length = ps.length) (hN : ps.length + 1 ≤ N.length)
    (body : ∀ (cdv : Value) (A : Around) (outer : List Env) (s : Shared) (H H0 : Hp) (E : XK) (qs : List Addr) (its : List It) (gl : List (Addr × Nd)) (Q : Rs → List (Addr × Nd) → Prop) (Ex : Addr → List (Addr × Nd) → Prop), Go (cxOf (L2.CX P w) P w K mg base N qual (defScope st) f cdv A outer s H E) (fun cls d _ H => E cls d H) k → c its gl Q Ex →
      SV (cxOf (L2.CX P w) P w K mg base N qual (defScope st) f cdv A outer s H E) ⟨H0, qs, T, []⟩ (fun cls d _ H => E cls d H) (defBody st) (iniO N its gl) { nx := fun r => ∃ gl', r[iG]? = some (.gs gl') ∧ Q (.da .none) gl', rt := fun s r => isO s = true ∧ ∃ gl', r[iG]? = some (.gs gl') ∧ Q s gl', ex := fun C r => ∃ gl', r[iG]? = some (.gs gl') ∧ Ex C gl' }) :
    FnOk P w K mg base (L2.CX P w) (k + 1) f fd ps (spO T K c) := by
  refine F.okX S (fun vs H Q E h => ?_) (fun cdv A outer s H vs Q E hr h => ?_)
  · obtain ⟨qs, gl, its, Po, Ex, _, _, _, _, _, A, hc, _⟩ := h
    rw [A.len]
    exact hl _ _ _ _ hc
  · obtain ⟨qs, gl, its, Po, Ex, tb, hp, nd, ap, G, A', hc, k1, k2⟩ := h
    have Go' : Go (cxOf (L2.CX P w) P w K mg base N qual (defScope st) f cdv A outer s H E) (fun cls d _ H => E cls d H) k :=
      ⟨hr, rfl, passes_of rfl, takes_of rfl rfl rfl rfl, S.nd⟩
    have new : ∀ {r : List Sl} {H' : Hp} {σ' : St} {gl' : List (Addr × Nd)}, SOk K ⟨hide H (gown gl), qs, T, []⟩ r H' σ' → r[iG]? = some (.gs gl') → GNew gl gl' H H' ∧ GOk K (hide H' (gown gl' ++ qs)) H' gl' := fun {r H' σ' gl'} S' hG => by
      obtain ⟨G', nd'⟩ := S'.ghosts hG
      refine ⟨⟨fun a o e ha => S'.ex a o (by show hide H (gown gl) a = some o; rw [hide_out ha]; exact e), nd', fun p hp' => ?_⟩, GOk.mono (hide_sub fun p hp' => (List.mem_append.mp hp').elim (fun z => List.mem_append_left _ (mem_own hG z)) fun z => List.mem_append_right _ z) (fun _ _ => rfl) G'⟩
      have h0 := S'.new p (mem_own hG hp')
      by_cases hz : p ∈ gown gl
      · exact .inl hz
      · refine .inr ?_
        have h0 : hide H (gown gl) p = none := h0
        rw [hide_out hz] at h0
        exact h0
    refine ⟨_, wS_ok, body cdv A outer s H (hide H (gown gl)) E qs its gl Po Ex Go' hc H _ _ (sok_iniO tb hp nd ap G A' (by rw [hl _ _ _ _ hc]; exact hN)) ⟨fun r σ' H' S' hq => ?_, fun s v r σ' H' S' y hq => ?_, fun _ _ _ _ z => z.elim, fun _ _ _ _ z => z.elim, fun C r σ' H' S' hx => ?_⟩⟩
    · obtain ⟨gl', hG, hq⟩ := hq
      obtain ⟨n1, n2⟩ := new S' hG
      exact k1 (.da .none) .non gl' H' n1 n2 (show Rp K _ V.non .none from .non) hq
    · obtain ⟨hi, gl', hG, hq⟩ := hq
      obtain ⟨n1, n2⟩ := new S' hG
      refine k1 s v gl' H' n1 n2 ?_ hq
      cases s with
      | da d => exact Rp.mono (hide_sub fun p hp' => (List.mem_append.mp hp').elim (fun z => List.mem_append_left _ (mem_own hG z)) fun z => List.mem_append_right _ z) y
      | rf a => exact y
      | nl _ => cases hi
      | nd _ => cases hi
    · obtain ⟨gl', hG, hq⟩ := hx
      obtain ⟨n1, n2⟩ := new S' hG
      exact k2 C gl' H' n1 n2 hq
section
variable {X : Cx} {CX : CXT} {k : Nat} {f C : Addr} {fd : FuncData} {ps : List Str} {sp : Sp} {E : St → XK} {x m : Str} {p pos apos : Pos} {e o : Expr} {es : List Expr} {ta : TE} {t : TA}
/-- o.m(e, ..), exceptions by the slots -/
def tMethX (C : Addr) (m : Str) (sp : Sp) (E : St → XK) (ta : TE) (t : TA) : TE := fun σ H Q => ta σ H fun x H1 => ∃ a dx fs, x = .ref a ∧ H1 a = some (.ins C dx fs) ∧ fs.lookup m = none ∧ t σ H1 fun vs H2 => sp (x :: vs) H2 Q (E σ)
theorem pe_methX {pl : Sem Bool} (he : PE X o ta) (c : Cls X.K C) (hm : Meth X.K C m f) (F : FnOk X.prog X.w X.K X.mg X.base CX k f fd ps sp) (hr : Room k X.A) (hb : Binds X.K fd ps []) (hx : ∀ σ, PassesAt CX X σ (E σ)) (ha : PA X (e :: es) t)
    (hst : starEach (e :: es) X.env = (false, eval e X.env) :: starEach es X.env := by rfl) (hpl : (backTo pos (starEach es X.env)).any (·.1) = false := by rfl)
    (ht : eval (.Call (.Attribute o m apos) (e :: es) [] pos) X.env = (do
      let ov ← eval o X.env
      standAt apos.atName
      let (f, first) ← holding [ov] (getMethod ov m pl)
      callWith pos f first (backTo pos (starEach (e :: es) X.env)) (backToKw pos (keywordEach [] X.env))) := by rfl) :
    PE X (.Call (.Attribute o m apos) (e :: es) [] pos) (tMethX C m sp E ta t) := by
  refine ⟨fun pins s σ H Q I h => ?_⟩
  refine PySem.W.methodCall_KW (pl := pl) (thn (he.run pins s σ H _ I h) fun u s1 ⟨x, H1, I1, rx, a, dx, fs, ex, ea, l, q⟩ => ?_) ht
  subst ex
  obtain rfl : u = Value.ref a := rx
  refine getmeth_ok I1 ea c hm l ?_
  refine PySem.W.callWith_K (first := [.ref a]) (h₀ := X.base) I.ok.mod.kin hm.kp (thn (ha.run pos pins s1 σ H1 _ I1 q) fun us s2 ⟨vs, H2, I2, r, q2⟩ => ⟨I2.kIn, ?_⟩) hst hpl
  exact run_fnS (us := .ref a :: us) (vs := .ref a :: vs) F hr hb (hx σ) I2 (.cons rfl r) q2
theorem pe_methX0 {pl : Sem Bool} (he : PE X o ta) (c : Cls X.K C) (hm : Meth X.K C m f) (F : FnOk X.prog X.w X.K X.mg X.base CX k f fd ps sp) (hr : Room k X.A) (hb : Binds X.K fd ps []) (hx : ∀ σ, PassesAt CX X σ (E σ))
    (ht : eval (.Call (.Attribute o m apos) [] [] pos) X.env = (do
      let ov ← eval o X.env
      standAt apos.atName
      let (f, first) ← holding [ov] (getMethod ov m pl)
      callWith pos f first (backTo pos (starEach [] X.env)) (backToKw pos (keywordEach [] X.env))) := by rfl) :
    PE X (.Call (.Attribute o m apos) [] [] pos) (tMethX C m sp E ta tNil) := by
  refine ⟨fun pins s σ H Q I h => ?_⟩
  refine PySem.W.methodCall_KW (pl := pl) (thn (he.run pins s σ H _ I h) fun u s1 ⟨x, H1, I1, rx, a, dx, fs, ex, ea, l, q⟩ => ?_) ht
  subst ex
  obtain rfl : u = Value.ref a := rx
  refine getmeth_ok I1 ea c hm l ?_
  exact PySem.W.callWith_K0 (first := [.ref a]) I1.kIn hm.kp (run_fnS (us := [.ref a]) (vs := [.ref a]) F hr hb (hx σ) I1 (.cons rfl .nil) q)
end
/-- the method m of the class at C keeps the promise c -/
def MthO (P : Program) (w : World) (T : List Addr) (K : PySem.W.Frag) (mg : Str → Option Value) (base : Heap) (C : Addr) (m : Str) (k : Nat) (c : CtO) : Prop :=
  ∃ f fd ps, FnOk P w K mg base (L2.CX P w) k f fd ps (spO T K c) ∧ Meth K C m f ∧ Binds K fd ps []
def CalO (P : Program) (w : World) (T : List Addr) (K : PySem.W.Frag) (mg : Str → Option Value) (base : Heap) (x : Str) (k : Nat) (c : CtO) : Prop :=
  ∃ f fd ps, FnOk P w K mg base (L2.CX P w) k f fd ps (spO T K c) ∧ mg x = some (.ref f) ∧ PySem.W.keepIn K (.ref f) = true ∧ Binds K fd ps []
/-- the class called x, at C, is made by an __init__ that keeps c -/
def MakO (P : Program) (w : World) (T : List Addr) (K : PySem.W.Frag) (mg : Str → Option Value) (base : Heap) (x : Str) (C : Addr) (k : Nat) (c : CtO) : Prop :=
  ∃ f fd ps, FnOk P w K mg base (L2.CX P w) k f fd ps (spO T K c) ∧ Mk K C f ∧ mg x = some (.ref C) ∧ Binds K fd ps []
section
variable {X : Cx} {B : Bx} {W : WX} {P : Po} {r q : List Sl} {e a b o tg : Expr} {es : List Expr} {rest body orelse : List Stmt} {d : D} {ds : List D} {pos pos' p1 apos : Pos} {k kk : Nat} {x m : Str} {gl : List (Addr × Nd)} {p C dx : Addr} {fs : List (Str × It)} {c : CtO} {Po : Rs → List (Addr × Nd) → Prop} {Ex : Addr → List (Addr × Nd) → Prop}
/-- a call that turns ghosts -/
def EOb (X : Cx) (B : Bx) (W : WX) (iG : Nat) (e : Expr) (r : List Sl) (Po : Rs → List (Addr × Nd) → Prop) (Ex : Addr → List (Addr × Nd) → Prop) : Prop :=
  ∃ te, PE X e te ∧ ∀ H σ, SOk X.K B r H σ → ∀ Q : VK, (∀ s v gl' H', SOk X.K B (r.set iG (.gs gl')) H' σ → RsO X.K (hid B (r.set iG (.gs gl')) H') v s → Po s gl' → Q v H') → (∀ C gl' H', SOk X.K B (r.set iG (.gs gl')) H' σ → Ex C gl' → W (.ref C) none σ H') → te σ H Q
theorem own_set2 {s : Sl} : ∀ {r : List Sl} {i : Nat} {p : Addr}, p ∈ own (r.set i s) → p ∈ ownOf s ∨ p ∈ own (r.set i .no)
  | [], _, _, h => .inr h
  | _ :: _, 0, _, h => (List.mem_append.mp h).elim .inl fun z => .inr z
  | a :: r, i + 1, _, h => (List.mem_append.mp h).elim (fun z => .inr (List.mem_append_left _ z)) fun z => (own_set2 (i := i) z).elim .inl fun y => .inr (List.mem_append_right _ y)
theorem own_no_sub {s : Sl} : ∀ {r : List Sl} {i : Nat} {p : Addr}, p ∈ own (r.set i .no) → p ∈ own (r.set i s)
  | [], _, _, h => h
  | _ :: _, 0, _, h => List.mem_append_right _ h
  | a :: r, i + 1, _, h => (List.mem_append.mp h).elim (fun z => List.mem_append_left _ z) fun z => List.mem_append_right _ (own_no_sub (i := i) z)
/-- what a callee with all ghosts may ask, and what it gives back -/
theorem spO_of {iG : Nat} {H : Hp} {σ : St} {its : List It} {vs : List V} {Q : VK} {E : XK} (S : SOk X.K B r H σ) (hG : r[iG]? = some (.gs gl)) (A : ItA X.K (hid B r H) vs its) (hc : c its gl Po Ex)
    (k1 : ∀ s v gl' H', SOk X.K B (r.set iG (.gs gl')) H' σ → RsO X.K (hid B (r.set iG (.gs gl')) H') v s → Po s gl' → Q v H') (k2 : ∀ C gl' H', SOk X.K B (r.set iG (.gs gl')) H' σ → Ex C gl' → E (.ref C) none H') : spO B.ts X.K c vs H Q E := by
  obtain ⟨G, nd⟩ := S.ghosts hG
  have hr : r.set iG (.gs gl) = r := set_self hG
  have sub1 : ∀ {gl' : List (Addr × Nd)}, ∀ q ∈ own (r.set iG (.gs gl')) ++ B.ps, q ∈ gown gl' ++ (own (r.set iG .no) ++ B.ps) := fun {gl'} q hq => (List.mem_append.mp hq).elim (fun z => (own_set2 z).elim (fun y => List.mem_append_left _ y) fun y => List.mem_append_right _ (List.mem_append_left _ y)) fun z => List.mem_append_right _ (List.mem_append_right _ z)
  have hi := (List.getElem?_eq_some_iff.mp hG).1
  have sub2 : ∀ {gl' : List (Addr × Nd)}, ∀ q ∈ gown gl' ++ (own (r.set iG .no) ++ B.ps), q ∈ own (r.set iG (.gs gl')) ++ B.ps := fun {gl'} q hq => (List.mem_append.mp hq).elim (fun z => List.mem_append_left _ (mem_own (i := iG) (s := .gs gl') (List.getElem?_set_self hi) z)) fun z => (List.mem_append.mp z).elim (fun y => List.mem_append_left _ (own_no_sub y)) fun y => List.mem_append_right _ y
  have ap : ∀ q ∈ gown gl, q ∉ own (r.set iG .no) ++ B.ps := fun q hq z => by
    rcases List.mem_append.mp z with z | z
    · -- the ghosts and the other slots are apart
      have key : ∀ {g : List Sl} {i : Nat}, g[i]? = some (.gs gl) → (own g).Nodup → q ∉ own (g.set i .no) := by
        intro g
        induction g with
        | nil => intro i h; simp at h
        | cons a g ih =>
          intro i h nd
          have nd : (ownOf a ++ own g).Nodup := nd
          obtain ⟨n1, n2, n3⟩ := List.nodup_append.mp nd
          cases i with
          | zero =>
            simp at h; subst h
            intro w
            have w : q ∈ own g := w
            exact n3 q hq q w rfl
          | succ i =>
            have hi : g[i]? = some (.gs gl) := by simpa using h
            intro w
            rcases List.mem_append.mp w with w | w
            · exact n3 q w q (mem_own hi hq) rfl
            · exact ih hi n2 w
      exact key hG S.nd z
    · exact S.old q z (S.new q (mem_own hG hq))
  have back : ∀ {gl' : List (Addr × Nd)} {H' : Hp}, GNew gl gl' H H' → GOk X.K (hide H' (gown gl' ++ (own (r.set iG .no) ++ B.ps))) H' gl' → SOk X.K B (r.set iG (.gs gl')) H' σ := fun {gl' H'} n g => S.gset hG n.k n.nd n.nw fun _ => GOk.mono (hide_sub sub1) (fun _ _ => rfl) g
  refine ⟨own (r.set iG .no) ++ B.ps, gl, its, Po, Ex, S.tb, fun q hq => ?_, nd, ap, ?_, ?_, hc, fun s v gl' H' n g ro ho => ?_, fun C gl' H' n g hx => k2 C gl' H' (back n g) hx⟩
  · rcases List.mem_append.mp hq with z | z
    · exact S.dom q (List.mem_append_left _ (by have := own_no_sub (s := .gs gl) z; rw [hr] at this; exact this))
    · exact S.dom q (List.mem_append_right _ z)
  · exact GOk.mono (hide_sub (by have := @sub2 gl; rw [hr] at this; exact this)) (fun _ _ => rfl) G
  · exact ItA.mono (hide_sub (by have := @sub2 gl; rw [hr] at this; exact this)) A
  · refine k1 s v gl' H' (back n g) ?_ ho
    cases s with
    | da d => exact Rp.mono (hide_sub sub1) ro
    | rf a => exact ro
    | nl _ => exact ro
    | nd _ => exact ro
theorem eoMeth (iG j : Nat) {pl : Sem Bool} (g : Go X W kk) (ho : ER X B o r p) (hG : r[iG]? = some (.gs gl)) (hj : gl[j]? = some (p, .ob C dx fs)) (cl : Cls X.K C) (M : MthO X.prog X.w B.ts X.K X.mg X.base C m k c) (hk : k ≤ kk) (hl : fs.lookup m = none) (ha : EA X B (e :: es) r ds) (hc : c (.rf p :: ds.map It.da) gl Po Ex)
    (hst : starEach (e :: es) X.env = (false, eval e X.env) :: starEach es X.env := by rfl) (hpl : (backTo pos (starEach es X.env)).any (·.1) = false := by rfl)
    (ht : eval (.Call (.Attribute o m apos) (e :: es) [] pos) X.env = (do
      let ov ← eval o X.env
      standAt apos.atName
      let (f, first) ← holding [ov] (getMethod ov m pl)
      callWith pos f first (backTo pos (starEach (e :: es) X.env)) (backToKw pos (keywordEach [] X.env))) := by rfl) : EOb X B W iG (.Call (.Attribute o m apos) (e :: es) [] pos) r Po Ex := by
  obtain ⟨f, fd, ps, F, hm, hb⟩ := M
  obtain ⟨te, pp, kt⟩ := ho
  obtain ⟨ta, pa, ka⟩ := ha
  refine ⟨_, pe_methX pp cl hm F (g.hr.mono hk) hb (fun σ => passAt g.tk σ) pa hst hpl ht, fun H σ S Q k1 k2 => kt H σ S _ fun H1 s1 => ?_⟩
  obtain ⟨vs, e1, e2, z⟩ := ((S.mono s1).ghosts hG).1.get hj
  refine ⟨p, dx, vs, rfl, e1, z.none hl, ka H1 σ (S.mono s1) _ fun ws H2 s2 y => ?_⟩
  exact spO_of ((S.mono s1).mono s2) hG (.cons (i := .rf p) rfl (RpA.its y)) hc k1 k2
theorem eoMeth0 (iG j : Nat) {pl : Sem Bool} (g : Go X W kk) (ho : ER X B o r p) (hG : r[iG]? = some (.gs gl)) (hj : gl[j]? = some (p, .ob C dx fs)) (cl : Cls X.K C) (M : MthO X.prog X.w B.ts X.K X.mg X.base C m k c) (hk : k ≤ kk) (hl : fs.lookup m = none) (hc : c [.rf p] gl Po Ex)
    (ht : eval (.Call (.Attribute o m apos) [] [] pos) X.env = (do
      let ov ← eval o X.env
      standAt apos.atName
      let (f, first) ← holding [ov] (getMethod ov m pl)
      callWith pos f first (backTo pos (starEach [] X.env)) (backToKw pos (keywordEach [] X.env))) := by rfl) : EOb X B W iG (.Call (.Attribute o m apos) [] [] pos) r Po Ex := by
  obtain ⟨f, fd, ps, F, hm, hb⟩ := M
  obtain ⟨te, pp, kt⟩ := ho
  refine ⟨_, pe_methX0 pp cl hm F (g.hr.mono hk) hb (fun σ => passAt g.tk σ) ht, fun H σ S Q k1 k2 => kt H σ S _ fun H1 s1 => ?_⟩
  obtain ⟨vs, e1, e2, z⟩ := ((S.mono s1).ghosts hG).1.get hj
  refine ⟨p, dx, vs, rfl, e1, z.none hl, ?_⟩
  exact spO_of (S.mono s1) hG (.cons (i := .rf p) rfl .nil) hc k1 k2
/-- f(e, ..), data alone -/
theorem eoCall (iG : Nat) (g : Go X W kk) (M : CalO X.prog X.w B.ts X.K X.mg X.base x k c) (hk : k ≤ kk) (hG : r[iG]? = some (.gs gl)) (ha : EA X B (e :: es) r ds) (hc : c (ds.map It.da) gl Po Ex) (hg : Gl X x := by rfl) (hdb : (x == ("__debug__" : Str)) = false := by decide)
    (he : starEach (e :: es) X.env = (false, eval e X.env) :: starEach es X.env := by rfl) (hpl : (backTo pos (starEach es X.env)).any (·.1) = false := by rfl) : EOb X B W iG (.Call (.Name x p1) (e :: es) [] pos) r Po Ex := by
  obtain ⟨f, fd, ps, F, hm, hkp, hb⟩ := M
  obtain ⟨ta, pa, ka⟩ := ha
  refine ⟨_, pe_callS F (g.hr.mono hk) hg hm hkp hb (fun σ => passAt g.tk σ) pa hdb he hpl, fun H σ S Q k1 k2 => ka H σ S _ fun vs H1 s1 y => ?_⟩
  exact spO_of (S.mono s1) hG (RpA.its y) hc k1 k2
/-- C(e, ..): a new object -/
theorem eoMake (iG : Nat) (g : Go X W kk) (M : MakO X.prog X.w B.ts X.K X.mg X.base x C k c) (hk : k + 1 ≤ kk) (hG : r[iG]? = some (.gs gl)) (ha : EA X B (e :: es) r ds) (hc : ∀ p dx, c (.rf p :: ds.map It.da) ((p, .ob C dx []) :: gl) (fun s gl' => s = .da .none ∧ Po (.rf p) gl') fun _ _ => False) (hg : Gl X x := by rfl) (hdb : (x == ("__debug__" : Str)) = false := by decide)
    (he : starEach (e :: es) X.env = (false, eval e X.env) :: starEach es X.env := by rfl) (hpl : (backTo pos (starEach es X.env)).any (·.1) = false := by rfl) : EOb X B W iG (.Call (.Name x p1) (e :: es) [] pos) r Po Ex := by
  obtain ⟨f, fd, ps, F, hm, hx, hb⟩ := M
  obtain ⟨ta, pa, ka⟩ := ha
  refine ⟨_, pe_make hm F (g.hr.mono hk) hg hx hb .nil passL pa hdb he hpl, fun H σ S Q k1 k2 => ka H σ S _ fun vs H1 s1 y => ?_⟩
  intro a dx na nd ne
  have S1 := S.mono s1
  obtain ⟨G, gnd⟩ := S1.ghosts hG
  have there : ∀ q ∈ gown gl, ∃ u, H1 q = some u ∧ NT u := fun q hq => GOk.there G hq
  have sm : Same H1 (upd (upd H1 dx (.own a)) a (.ins C dx [])) := (same_new nd).trans (same_new (by rw [upd_ne (Ne.symm ne)]; exact na))
  have S2 : SOk X.K B (r.set iG (.gs ((a, .ob C dx []) :: gl))) (upd (upd H1 dx (.own a)) a (.ins C dx [])) σ := by
    refine S1.gset hG (fun q o eq _ => sm q o eq) ?_ ?_ fun hh => ?_
    · show (a :: dx :: gown gl).Nodup
      refine List.nodup_cons.mpr ⟨fun z => ?_, List.nodup_cons.mpr ⟨fun z => ?_, gnd⟩⟩
      · rcases List.mem_cons.mp z with z | z
        · exact ne z.symm
        · obtain ⟨u, eu, nt⟩ := there a z; rw [na] at eu; cases eu
      · obtain ⟨u, eu, nt⟩ := there dx z; rw [nd] at eu; cases eu
    · intro q hq
      rcases List.mem_cons.mp hq with z | z
      · exact .inr (z ▸ na)
      · rcases List.mem_cons.mp z with z | z
        · exact .inr (z ▸ nd)
        · exact .inl z
    · refine ⟨⟨[], upd_same, by rw [upd_ne ne, upd_same], .nil⟩, GOk.mono hh (fun q hq => ?_) G⟩
      obtain ⟨u, eu, nt⟩ := there q hq
      rw [eu]; exact sm.k eu nt
  rw [List.append_nil]
  have hG2 := get_set (s' := .gs ((a, .ob C dx []) :: gl)) hG
  have ys : RpA X.K (hid B (r.set iG (.gs ((a, .ob C dx []) :: gl))) (upd (upd H1 dx (.own a)) a (.ins C dx []))) vs ds := by
    refine y.mono fun q u eq => ?_
    have eq : hide H1 (own r ++ B.ps) q = some u := eq
    by_cases hq : q ∈ own r ++ B.ps
    · rw [hide_in hq] at eq; cases eq
    · rw [hide_out hq] at eq
      show Ext1 u (hide _ (own (r.set iG (.gs ((a, .ob C dx []) :: gl))) ++ B.ps) q)
      rw [hide_out fun z => ?_]
      · exact sm q u eq
      · rcases List.mem_append.mp z with z | z
        · rcases own_set_mem z with z | z
          · rcases List.mem_cons.mp z with z | z
            · rw [z, na] at eq; cases eq
            · rcases List.mem_cons.mp z with z | z
              · rw [z, nd] at eq; cases eq
              · exact hq (List.mem_append_left _ (mem_own hG z))
          · exact hq (List.mem_append_left _ z)
        · exact hq (List.mem_append_right _ z)
  refine spO_of (E := E0) S2 hG2 (.cons (i := .rf a) rfl (RpA.its ys)) (hc a dx) (fun s v gl' H' S3 ro ho => ?_) fun _ _ _ _ z => z.elim
  obtain ⟨hs, ho⟩ := ho
  subst hs
  cases ro
  rw [set_set] at S3
  exact ⟨rfl, k1 (.rf a) _ gl' H' S3 rfl ho⟩
def Rs.slO : Rs → Sl
  | .da d => .im d
  | .rf a => .rf a
  | _ => .no
theorem sv_asgO (i iG : Nat) (g : Go X W k) (he : EOb X B W iG e r Po Ex) (h : ∀ s gl', Po s gl' → SV X B W rest ((r.set iG (.gs gl')).set i s.slO) P) (hxe : ∀ C gl', Ex C gl' → P.ex C (r.set iG (.gs gl'))) (hi : X.N[i]? = some x := by rfl) (hx : Loc X.env.scope x := by first | exact Or.inl rfl | exact Or.inr rfl)
    (hs : swapsWith e (some (.Name x pos')) pos.line X.env = pure false := by rfl) (hf : X.fn x = true ∨ X.env.scope.names.lookup x = some .local := by first | exact .inl rfl | exact .inr rfl) : SV X B W (.Assign [.Name x pos'] e pos :: rest) r P := fun H σ E S kt => by
  obtain ⟨te, p, q⟩ := he
  refine ⟨_, pss_cons (ps_set g.nd hi hx p hs hf) wS_ok, q H σ S _ (fun s v gl' H' S' ro ho => ?_) fun C gl' H' S' hx' => kt.ex C _ σ H' S' (hxe C gl' hx')⟩
  refine h s gl' ho H' _ E ?_ kt
  cases s with
  | da d => exact S'.im ro
  | rf a => exact S'.set (s := .rf a) rfl (congrArg (fun z => some (some z)) ro)
  | nl _ => exact ro.elim
  | nd _ => exact ro.elim
theorem sv_dropO (iG : Nat) (he : EOb X B W iG e r Po Ex) (h : ∀ s gl', Po s gl' → SV X B W rest (r.set iG (.gs gl')) P) (hxe : ∀ C gl', Ex C gl' → P.ex C (r.set iG (.gs gl'))) (hs : swapsWith e none pos.line X.env = pure false := by rfl) : SV X B W (.Expr e pos :: rest) r P := fun H σ E S kt => by
  obtain ⟨te, p, q⟩ := he
  exact ⟨_, pss_cons (ps_expr p hs) wS_ok, q H σ S _ (fun s v gl' H' S' ro ho => h s gl' ho H' σ E S' kt) fun C gl' H' S' hx' => kt.ex C _ σ H' S' (hxe C gl' hx')⟩
theorem sv_retOb (iG : Nat) (he : EOb X B W iG e r Po Ex) (h : ∀ s gl', Po s gl' → P.rt s (r.set iG (.gs gl'))) (hxe : ∀ C gl', Ex C gl' → P.ex C (r.set iG (.gs gl'))) : SV X B W (.Return (some e) pos :: rest) r P := fun H σ E S kt => by
  obtain ⟨te, p, q⟩ := he
  refine ⟨_, pss_cons (ps_ret p) wS_ok, q H σ S _ (fun s v gl' H' S' ro ho => kt.rt s v _ σ H' S' ?_ (h s gl' ho)) fun C gl' H' S' hx' => kt.ex C _ σ H' S' (hxe C gl' hx')⟩
  cases s with
  | da d => exact ro
  | rf a => exact ro
  | nl _ => exact ro.elim
  | nd _ => exact ro.elim
/-- if not call: body -/
theorem sv_ifNO {pn : Pos} (iG : Nat) (he : EOb X B W iG e r Po Ex) (hb : ∀ s gl', Po s gl' → ∃ k, s = .da (.bool k)) (h1 : ∀ gl', Po (.da (.bool false)) gl' → SV X B W body (r.set iG (.gs gl')) (P.then fun r' => SV X B W rest r' P)) (h2 : ∀ gl', Po (.da (.bool true)) gl' → SV X B W orelse (r.set iG (.gs gl')) (P.then fun r' => SV X B W rest r' P)) (hxe : ∀ C gl', Ex C gl' → P.ex C (r.set iG (.gs gl')))
    (hw : ∀ whole, isTrue e X.env whole = (do let v ← whole; standAt e.pos; holding [v] (truthy v)) := by intro _; rfl) : SV X B W (.If (.UnaryOp .Not e pn) body orelse pos :: rest) r P := fun H σ E S kt => by
  obtain ⟨te, p, q⟩ := he
  refine ⟨_, pss_cons (ps_if (pt_not (pt_val p hw)) wS_ok wS_ok) wS_ok, q H σ S _ (fun s v gl' H' S' ro ho => ?_) fun C gl' H' S' hx' => kt.ex C _ σ H' S' (hxe C gl' hx')⟩
  obtain ⟨kb, rfl⟩ := hb s gl' ho
  cases ro
  have kt' : Kt X B W (P.then fun r' => SV X B W rest r' P) { E with nx := wS X rest E } := kt.then (t := wS X rest) fun r' σ' H' S' hR => hR H' σ' E S' kt
  cases kb with
  | true => exact ⟨true, rfl, iteF (h2 gl' ho H' σ _ S' kt')⟩
  | false => exact ⟨false, rfl, iteT (h1 gl' ho H' σ _ S' kt')⟩
end
end Tp

namespace Tp
open PySem L2
section
variable {X : Cx} {B : Bx} {W : WX} {P : Po} {r q : List Sl} {e e1 : Expr} {es : List Expr} {sts rest : List Stmt} {d : D} {ds : List D} {pos p1 : Pos} {k kk : Nat} {x : Str} {gl gl' : List (Addr × Nd)} {c : Ct}
/-- a def that takes no objects starts without ghosts -/
theorem sv_ghost0 (iG : Nat) (h0 : r[iG]? = some .no) (h : SV X B W sts (r.set iG (.gs [])) P) : SV X B W sts r P := fun H σ E S kt => by
  have oe : own (r.set iG (.gs [])) = own r := own_set_eq (s := .no) (s' := .gs []) rfl h0
  refine h H σ E ⟨S.ex, S.old, ?_, ?_, by rw [List.length_set]; exact S.len, fun i s e => ?_, S.tb, by show GOk X.K (hide H (own (r.set iG (.gs [])) ++ B.ps)) H B.gr; rw [oe]; exact S.gr, S.gp⟩ kt
  · rw [own_set_eq (s := .no) (s' := .gs []) rfl h0]; exact S.new
  · rw [own_set_eq (s := .no) (s' := .gs []) rfl h0]; exact S.nd
  · show SlOk X.K (hide H (own (r.set iG (.gs [])) ++ B.ps)) H s _
    rw [own_set_eq (s := .no) (s' := .gs []) rfl h0]
    by_cases hj : iG = i
    · subst hj
      rw [List.getElem?_set_self (List.getElem?_eq_some_iff.mp h0).1] at e
      cases e
      trivial
    · rw [List.getElem?_set_ne hj] at e
      exact S.sl i s e
theorem gown_perm (h : gl.Perm gl') : (gown gl).Perm (gown gl') := by
  induction h with
  | nil => exact .refl _
  | cons a _ ih => obtain ⟨a, n⟩ := a; rw [gown_cons, gown_cons]; exact ih.append_left _
  | swap a b l =>
    obtain ⟨a, n⟩ := a
    obtain ⟨b, m⟩ := b
    rw [gown_cons, gown_cons, gown_cons, gown_cons, ← List.append_assoc, ← List.append_assoc]
    exact (List.perm_append_comm).append_right _
  | trans _ _ h1 h2 => exact h1.trans h2
theorem GOk.perm {K : PySem.W.Frag} {Hh H : Hp} (h : gl.Perm gl') : GOk K Hh H gl → GOk K Hh H gl' := by
  induction h with
  | nil => exact id
  | cons a _ ih => exact fun x => ⟨x.1, ih x.2⟩
  | swap a b l => exact fun x => ⟨x.2.1, x.1, x.2.2⟩
  | trans _ _ h1 h2 => exact fun x => h2 (h1 x)
/-- the ghosts in another order -/
theorem sv_perm (iG : Nat) (hG : r[iG]? = some (.gs gl)) (hp : gl.Perm gl') (h : SV X B W sts (r.set iG (.gs gl')) P) : SV X B W sts r P := fun H σ E S kt => by
  obtain ⟨G, nd⟩ := S.ghosts hG
  exact h H σ E (S.gset hG (fun _ _ e _ => .inl e) ((gown_perm hp).nodup_iff.mp nd) (fun p hp' => .inl ((gown_perm hp).mem_iff.mpr hp')) fun hh => (GOk.mono hh (fun _ _ => rfl) G).perm hp) kt
/-- f(o.m(..), e, ..): a call over data whose first argument turns ghosts -/
theorem eoArg1 (iG : Nat) {Po1 Po : Rs → List (Addr × Nd) → Prop} (g : Go X W kk) (h1 : EOb X B W iG e1 r Po1 fun _ _ => False) (C : Cal X.prog X.w B.ts X.K X.mg X.base x k c) (hk : k ≤ kk)
    (h2 : ∀ s gl', Po1 s gl' → ∃ d0, s = .da d0 ∧ ∃ ds, EA X B es (r.set iG (.gs gl')) ds ∧ ∃ dr, Po (.da dr) gl' ∧ c (d0 :: ds) (fun s' => s' = .da dr) fun _ => False)
    (hg : Gl X x := by rfl) (hdb : (x == ("__debug__" : Str)) = false := by decide)
    (he : starEach (e1 :: es) X.env = (false, eval e1 X.env) :: starEach es X.env := by rfl) (hpl : (backTo pos (starEach es X.env)).any (·.1) = false := by rfl) : EOb X B W iG (.Call (.Name x p1) (e1 :: es) [] pos) r Po fun _ _ => False := by
  obtain ⟨f, fd, ps, F, hm, hkp, hb⟩ := C
  obtain ⟨t1, q1, k1⟩ := h1
  -- the other arguments, the same reading for all ghosts
  let ta : TA := fun σ H Q => ∃ t, PA X es t ∧ t σ H Q
  have pa : PA X es ta := ⟨fun pos pins s σ H Q I ⟨t, p, z⟩ => p.run pos pins s σ H Q I z⟩
  refine ⟨_, pe_callS F (g.hr.mono hk) hg hm hkp hb (fun σ => passAt g.tk σ) (pa_cons q1 pa he) hdb he hpl, fun H σ S Q z1 z2 => k1 H σ S _ (fun s v gl' H' S' ro ho => ?_) fun _ _ _ _ z => z.elim⟩
  obtain ⟨d0, rfl, ds, ⟨t, p, ka⟩, dr, hPo, hc⟩ := h2 s gl' ho
  refine ⟨t, p, ka H' σ S' _ fun vs H2 s2 y => ?_⟩
  have S2 := S'.mono s2
  refine ⟨own (r.set iG (.gs gl')) ++ B.ps, d0 :: ds, fun s' => s' = .da dr, fun _ => False, S2.tb, S2.dom, .cons (Rp.mono (hide_mono s2) ro) y, hc, fun s' v' H3 s3 ro' ho' => ?_, fun _ _ _ z => z.elim⟩
  subst ho'
  exact z1 (.da dr) v' gl' H3 (S2.mono s3) ro' hPo
/-- a test: not call -/
theorem sv_ifNOX {pn : Pos} {body : List Stmt} (iG : Nat) {Po : Rs → List (Addr × Nd) → Prop} (he : EOb X B W iG e r Po fun _ _ => False) (hb : ∀ s gl', Po s gl' → s = .da (.bool true)) (h : ∀ gl', Po (.da (.bool true)) gl' → SV X B W rest (r.set iG (.gs gl')) P)
    (hw : ∀ whole, isTrue e X.env whole = (do let v ← whole; standAt e.pos; holding [v] (truthy v)) := by intro _; rfl) : SV X B W (.If (.UnaryOp .Not e pn) body [] pos :: rest) r P :=
  sv_ifNO iG he (fun s gl' h => ⟨true, hb s gl' h⟩) (fun gl' h => absurd (hb _ _ h) (by intro z; cases z)) (fun gl' h' => sv_nil (h gl' h')) (fun _ _ z => z.elim) hw
/-! tests whose first part turns ghosts -/
def ETg (X : Cx) (B : Bx) (W : WX) (iG : Nat) (c : Expr) (r : List Sl) (Pk : Bool → List (Addr × Nd) → Prop) : Prop :=
  ∃ t, PT X c t ∧ ∀ H σ, SOk X.K B r H σ → ∀ Q : Bool → Hp → Prop, (∀ k gl' H', SOk X.K B (r.set iG (.gs gl')) H' σ → Pk k gl' → Q k H') → t σ H Q
theorem etgCall (iG : Nat) {Po : Rs → List (Addr × Nd) → Prop} {Pk : Bool → List (Addr × Nd) → Prop} (he : EOb X B W iG e r Po fun _ _ => False) (h : ∀ s gl', Po s gl' → ∃ k, s = .da (.bool k) ∧ Pk k gl') (hw : ∀ whole, isTrue e X.env whole = (do let v ← whole; standAt e.pos; holding [v] (truthy v)) := by intro _; rfl) : ETg X B W iG e r Pk := by
  obtain ⟨te, p, q⟩ := he
  refine ⟨_, pt_val p hw, fun H σ S Q z => q H σ S _ (fun s v gl' H' S' ro ho => ?_) fun _ _ _ _ y => y.elim⟩
  obtain ⟨k, rfl, hk⟩ := h s gl' ho
  cases ro
  exact ⟨k, rfl, z k gl' H' S' hk⟩
theorem etgNot {pn : Pos} {iG : Nat} {Pk : Bool → List (Addr × Nd) → Prop} (h : ETg X B W iG e r fun k gl' => Pk (!k) gl') : ETg X B W iG (.UnaryOp .Not e pn) r Pk := by
  obtain ⟨t, p, q⟩ := h
  exact ⟨_, pt_not p, fun H σ S Q z => q H σ S _ fun k gl' H' S' hk => z (!k) gl' H' S' hk⟩
theorem etgOr {pn : Pos} {iG : Nat} {b : Expr} {kb : List (Addr × Nd) → Bool} {Pk Pa : Bool → List (Addr × Nd) → Prop} (h : ETg X B W iG e r Pa) (hb : ∀ gl', Pa false gl' → ET X B b (r.set iG (.gs gl')) (kb gl')) (h1 : ∀ gl', Pa true gl' → Pk true gl') (h2 : ∀ gl', Pa false gl' → Pk (kb gl') gl') : ETg X B W iG (.BoolOp .Or [e, b] pn) r Pk := by
  obtain ⟨t, p, q⟩ := h
  refine ⟨_, (pw_or p (pw_or1 (wT_ok (e := b)))).pt, fun H σ S Q z => q H σ S _ fun k gl' H' S' hk => ?_⟩
  cases k with
  | true => exact iteT (z true gl' H' S' (h1 gl' hk))
  | false =>
    obtain ⟨t', p', q'⟩ := hb gl' hk
    exact iteF ⟨t', p', q' H' σ S' _ fun H2 s2 => z _ gl' H2 (S'.mono s2) (h2 gl' hk)⟩
theorem sv_ifG {c : Expr} {body orelse : List Stmt} {iG : Nat} {Pk : Bool → List (Addr × Nd) → Prop} (hc : ETg X B W iG c r Pk) (h1 : ∀ gl', Pk true gl' → SV X B W body (r.set iG (.gs gl')) (P.then fun r' => SV X B W rest r' P)) (h2 : ∀ gl', Pk false gl' → SV X B W orelse (r.set iG (.gs gl')) (P.then fun r' => SV X B W rest r' P)) : SV X B W (.If c body orelse pos :: rest) r P := fun H σ E S kt => by
  obtain ⟨t, p, q⟩ := hc
  refine ⟨_, pss_cons (ps_if p wS_ok wS_ok) wS_ok, q H σ S _ fun k gl' H' S' hk => ?_⟩
  have kt' : Kt X B W (P.then fun r' => SV X B W rest r' P) { E with nx := wS X rest E } := kt.then (t := wS X rest) fun r' σ' H' S' hR => hR H' σ' E S' kt
  cases k with
  | true => exact iteT (h1 gl' hk H' σ _ S' kt')
  | false => exact iteF (h2 gl' hk H' σ _ S' kt')
theorem etgNotOr {pn pn2 : Pos} (iG : Nat) {b : Expr} {k kb : Bool} {g1 : List (Addr × Nd)} (he : EOb X B W iG e r (fun s gl' => s = .da (.bool k) ∧ gl' = g1) fun _ _ => False) (hb : k = true → ET X B b (r.set iG (.gs g1)) kb)
    (hw : ∀ whole, isTrue e X.env whole = (do let v ← whole; standAt e.pos; holding [v] (truthy v)) := by intro _; rfl) : ETg X B W iG (.BoolOp .Or [.UnaryOp .Not e pn, b] pn2) r (fun z gl' => z = (!k || kb) ∧ gl' = g1) := by
  refine etgOr (Pa := fun z gl' => z = (!k) ∧ gl' = g1) (kb := fun _ => kb) (etgNot (etgCall iG he (fun s gl' h => ⟨k, h.1, rfl, h.2⟩) hw)) (fun gl' h => ?_) (fun gl' h => ?_) fun gl' h => ?_
  · obtain ⟨h1, rfl⟩ := h
    cases k with
    | true => exact hb rfl
    | false => cases h1
  · obtain ⟨h1, rfl⟩ := h
    refine ⟨?_, rfl⟩
    rw [← h1]; rfl
  · obtain ⟨h1, rfl⟩ := h
    refine ⟨?_, rfl⟩
    rw [← h1]; rfl
theorem ov_catA {xs ys : List D} (hl : xs.length + ys.length ≤ 100000) : OV X .Add (.tuple xs) (.tuple ys) (.tuple (xs ++ ys)) :=
  ⟨_, op_catA, fun ps H x y hd rx ry Q q => by
    cases rx with
    | tup h1 a1 =>
      cases ry with
      | tup h2 a2 =>
        have l1 := a1.len
        have l2 := a2.len
        refine ⟨_, _, _, _, rfl, rfl, Tp.seqT hide_same h1, Tp.seqT hide_same h2, by rw [l1, l2]; exact line_of hl, fun z => ?_, fun z z2 => ?_, fun z z2 p hp => ?_⟩
        · subst z
          cases a1
          exact q _ H (Same.refl H) (.tup h2 a2)
        · subst z2
          cases a2
          rw [List.append_nil] at q
          exact q _ H (Same.refl H) (.tup h1 a1)
        · exact q _ _ (same_new hp) (.tup (SqT.of (hide_new hp hd)) ((a1.app a2).mono (hide_mono (same_new hp))))⟩
end
end Tp

namespace Tp
open PySem L2
/-! ### lists put together -/
def rCatL (K : PySem.W.Frag) : R2 := fun x y H Q => ∃ l b xs zs, x = .ref l ∧ y = .ref b ∧ SqL K H l xs ∧ SqL K H b zs ∧ xs.length + zs.length ≤ sizeLine ∧ ∀ p, H p = none → Q (.ref p) (upd H p (.lst (xs ++ zs)))
open PyProof.Rows in
theorem op_catL {X : Cx} : OpR X (binaryOp .Add) (rCatL X.K) := by
  intro pins s σ H x y v u Q I rx ry h
  obtain ⟨l, b, xs, zs, rfl, rfl, ha, hb, hz, q⟩ := h
  cases rx
  cases ry
  obtain ⟨its, r, ⟨⟨cls, dd, data, sl⟩, n, e, hc, hd, hdt⟩, z⟩ := I.list ha
  obtain ⟨its2, r2, ⟨⟨cls2, dd2, data2, sl2⟩, n2, e2, hc2, hd2, hdt2⟩, z2⟩ := I.list hb
  simp only at hc hd hdt hc2 hd2 hdt2
  subst hc hd hdt hc2 hd2 hdt2
  have l1 := r.length
  have l2 := r2.length
  have ea : its.toArray ++ its2.toArray = (its ++ its2).toArray := by simp
  refine concat_meets ⟨_, e, rfl⟩ ⟨_, e2, rfl⟩ noFill_list_add seq_list_add PySem.F.slot_list_add PySem.F.entry_list_add (PySem.F.args_list_add_2 _ _) (list_addW l b its.toArray its2.toArray n n2 none none sl sl2 (by rw [List.size_toArray, List.size_toArray]; omega)) ⟨e, e2, ?_⟩
  rw [ea]
  exact ⟨.ref _, _, I.lnew (t' := s.toks) (r.append r2) (by rw [List.length_append]; omega), rfl, q _ I.fresh⟩
section
variable {X : Cx} {B : Bx} {W : WX} {P : Po} {r q : List Sl} {e e1 : Expr} {es : List Expr} {sts rest : List Stmt} {d : D} {ds : List D} {pos p : Pos} {k kk n : Nat} {x : Str} {c : Ct}
theorem ov_catL {xs ys : List D} (hl : xs.length + ys.length ≤ 100000) : OV X .Add (.list xs) (.list ys) (.list (xs ++ ys)) :=
  ⟨_, op_catL, fun ps H x y hd rx ry Q q => by
    cases rx with
    | lst h1 a1 =>
      cases ry with
      | lst h2 a2 =>
        have l1 := a1.len
        have l2 := a2.len
        refine ⟨_, _, _, _, rfl, rfl, hide_same.seq h1, hide_same.seq h2, by rw [l1, l2]; exact line_of hl, fun p hp => ?_⟩
        exact q _ _ (same_new hp) (.lst (SqL.of (hide_new hp hd)) ((a1.app a2).mono (hide_mono (same_new hp))))⟩
/-! ### defaults, keywords -/
/-- the def called x, called with n values and the keywords ks, keeps c; dd: the defaults behind -/
def CalN (P : Program) (w : World) (T : List Addr) (K : PySem.W.Frag) (mg : Str → Option Value) (base : Heap) (x : Str) (k : Nat) (c : Ct) (n : Nat) (ks : List Str) (dd : List D) : Prop :=
  ∃ f fd ps dvs dus, FnOk P w K mg base (L2.CX P w) k f fd ps (spD T K c) ∧ mg x = some (.ref f) ∧ PySem.W.keepIn K (.ref f) = true ∧ KBn K fd ps n ks (fun us ws => us ++ (ws ++ dus)) (fun vs zs => vs ++ (zs ++ dvs)) ∧ RpA K (fun _ => none) dvs dd
theorem kbn_plain {K : PySem.W.Frag} {fd : FuncData} {ps ks : List Str} {n : Nat} (h : ∀ (s : Shared) (us ws : List Value), us.length = n → ws.length = ks.length → BindsTo s fd ⟨us, ks.zip ws⟩ (ps.zip (us ++ ws))) : KBn K fd ps n ks (fun us ws => us ++ (ws ++ [])) (fun vs zs => vs ++ (zs ++ [])) :=
  ⟨fun s us ws _ h1 h2 => by rw [List.append_nil]; exact h s us ws h1 h2, fun {_ _ _ _} r1 r2 => by
    rw [List.append_nil, List.append_nil]; exact r1.append r2⟩
theorem kbn_dflt {K : PySem.W.Frag} {fd : FuncData} {ps : List Str} {n : Nat} {dvs : List V} {dus : List Value} (hb : Binds K fd ps dus) (hd : Vals dvs dus) (hn : n + dus.length = ps.length) : KBn K fd ps n [] (fun us ws => us ++ (ws ++ dus)) (fun vs zs => vs ++ (zs ++ dvs)) :=
  ⟨fun s us ws X h1 h2 => (by
    cases ws with
    | nil => exact hb s us X (by rw [List.length_append, h1]; exact hn)
    | cons _ _ => exact absurd h2 (by simp)), fun {_ _ _ _} r1 r2 => r1.append (r2.append hd)⟩
def tCallNS (n m : Nat) (sp : Sp) (gV : List V → List V → List V) (E : St → XK) (t tk : TA) : TE := fun σ H Q => t σ H fun vs H1 => tk σ H1 fun zs H2 => vs.length = n ∧ zs.length = m ∧ sp (gV vs zs) H2 Q (E σ)
section
variable {CX : CXT} {f : Addr} {fd : FuncData} {ps ks : List Str} {sp : Sp} {E : St → XK} {kws : List Keyword} {t tk : TA} {g : List Value → List Value → List Value} {gV : List V → List V → List V}
theorem run_fnNS {pins : List (Addr × Obj)} {σ : St} {H : Hp} {s : Shared} {Q : VK} {us ws : List Value} {vs zs : List V} (F : FnOk X.prog X.w X.K X.mg X.base CX k f fd ps sp) (hr : Room k X.A) (hb : KBn X.K fd ps n ks g gV) (hx : PassesAt CX X σ (E σ))
    (I : Inv X pins σ H s) (r : Vals vs us) (rz : Vals zs ws) (l1 : vs.length = n) (l2 : zs.length = ks.length) (h : sp (gV vs zs) H Q (E σ)) : wpAny (model X.prog X.w) X.A (call (.ref f) us (ks.zip ws)) (EP X pins σ Q) X.xe s := by
  have r2 := hb.rel r rz
  refine wpAny_call (codeAny_mono (F.run X.A X.stack s H ⟨us, ks.zip ws⟩ (g us ws) (gV vs zs) Q (E σ) hr I.env0 (hb.to s us ws I.kIn (r.length.symm.trans l1) (rz.length.symm.trans l2)) r2 h) fun r s' hq => ?_)
  cases r with
  | error e => exact hx pins H s e s' I hq
  | ok fl =>
    cases fl with
    | ret u => exact I.after hq
    | next => exact False.elim hq
    | brk => exact False.elim hq
    | cont => exact False.elim hq
theorem pe_callNS (F : FnOk X.prog X.w X.K X.mg X.base CX k f fd ps sp) (hr : Room k X.A) (hg : Gl X x) (hm : X.mg x = some (.ref f)) (hk : PySem.W.keepIn X.K (.ref f) = true) (hb : KBn X.K fd ps n ks g gV) (hx : ∀ σ, PassesAt CX X σ (E σ))
    (ha : PA X (e :: es) t) (hkw : PK X kws tk) (hall : (backToKw pos (keywordEach kws X.env)).all (·.1.isSome) = true := by rfl) (hks : (backToKw pos (keywordEach kws X.env)).filterMap (·.1) = ks := by rfl)
    (hdb : (x == ("__debug__" : Str)) = false := by decide) (he : starEach (e :: es) X.env = (false, eval e X.env) :: starEach es X.env := by rfl)
    (hpl : ((backTo pos (starEach (e :: es) X.env)).any (·.1) || (backToKw pos (keywordEach kws X.env)).any (·.1.isNone)) = false := by rfl) :
    PE X (.Call (.Name x p) (e :: es) kws pos) (tCallNS n ks.length sp gV E t tk) := by
  refine ⟨fun pins s σ H Q I h => ?_⟩
  refine wpAny_Call_Name_kw (ld_glob I hg hm ?_ hdb)
  refine PySem.W.callWith_KW (h₀ := X.base) I.ok.mod.kin hk hall (thn (ha.run pos pins s σ H _ I h) fun us s1 ⟨vs, H1, I1, r, q⟩ => ?_) hpl he
  refine thn (hkw.run pos pins s1 σ H1 _ I1 q) fun ws s2 ⟨zs, H2, I2, rz, l1, l2, q2⟩ => ⟨I2.kIn, ?_⟩
  rw [hks]
  exact run_fnNS F hr hb (hx σ) I2 r rz l1 l2 q2
end
/-- keywords' values -/
def EKw (X : Cx) (B : Bx) (kws : List Keyword) (r : List Sl) (ds : List D) : Prop :=
  ∃ ta, PK X kws ta ∧ ∀ H σ, SOk X.K B r H σ → ∀ Q : List V → Hp → Prop, (∀ vs H', Same H H' → RpA X.K (hid B r H') vs ds → Q vs H') → ta σ H Q
theorem ekwN : EKw X B [] r [] := ⟨_, pk_nil, fun H σ _ Q q => q [] H (Same.refl _) .nil⟩
theorem ekwC {nm : Option Str} {kpos : Pos} {kws : List Keyword} (h : EV X B e r d) (hr : EKw X B kws r ds) : EKw X B (⟨nm, e, kpos⟩ :: kws) r (d :: ds) := by
  obtain ⟨t, p, q⟩ := h
  obtain ⟨t', p', q'⟩ := hr
  exact ⟨_, pk_cons p p', fun H σ S Q g => q H σ S _ fun v H1 s1 y => q' H1 σ (S.mono s1) _ fun vs H2 s2 z => g _ H2 (s1.trans s2) (.cons (y.mono (hide_mono s2)) z)⟩
theorem hide_none {H : Hp} {ps : List Addr} : Same (fun _ => none) (hide H ps) := fun _ _ e => by cases e
theorem ecCallN {Po : Rs → Prop} {Ex : Addr → Prop} {kws : List Keyword} {ks : List Str} {dk dd : List D} (g : Go X W kk) (C : CalN X.prog X.w B.ts X.K X.mg X.base x k c n ks dd) (hk : k ≤ kk) (ha : EA X B (e :: es) r ds) (hkw : EKw X B kws r dk) (hc : c (ds ++ (dk ++ dd)) Po Ex) (hn : ds.length = n := by rfl) (hn2 : dk.length = ks.length := by rfl)
    (hg : Gl X x := by rfl) (hall : (backToKw pos (keywordEach kws X.env)).all (·.1.isSome) = true := by rfl) (hks : (backToKw pos (keywordEach kws X.env)).filterMap (·.1) = ks := by rfl)
    (hdb : (x == ("__debug__" : Str)) = false := by decide) (he : starEach (e :: es) X.env = (false, eval e X.env) :: starEach es X.env := by rfl)
    (hpl : ((backTo pos (starEach (e :: es) X.env)).any (·.1) || (backToKw pos (keywordEach kws X.env)).any (·.1.isNone)) = false := by rfl) : EC X B W (.Call (.Name x p) (e :: es) kws pos) r Po Ex := by
  obtain ⟨f, fd, ps, dvs, dus, F, hm, hkp, hb, hd⟩ := C
  obtain ⟨ta, pa, ka⟩ := ha
  obtain ⟨tk, pk, kk'⟩ := hkw
  refine ⟨_, pe_callNS F (g.hr.mono hk) hg hm hkp hb (fun σ => passAt g.tk σ) pa pk hall hks hdb he hpl, fun H σ S Q q qx => ka H σ S _ fun vs H1 s1 y => kk' H1 σ (S.mono s1) _ fun zs H2 s2 y2 => ?_⟩
  refine ⟨y.len.trans hn, y2.len.trans hn2, own r ++ B.ps, ds ++ (dk ++ dd), Po, Ex, ((S.mono s1).mono s2).tb, ((S.mono s1).mono s2).dom, ?_, hc, fun s v H' z ro ho => q s v H2 H' (s1.trans s2) z ro ho, fun C H' z hx => qx C H' ((s1.trans s2).trans z) hx⟩
  exact (y.mono (hide_mono s2)).app (y2.app (hd.mono hide_none))
end
end Tp

/-! sum of a generator expression over a tuple's items -/
namespace TpG
open PySem PySem.Spec PyProof.Rows L2
open Tp (D Same SOk hid hide Bx RpA Rp ES EV Sl)
/-- x[k], x a tuple -/
theorem elt_ix {prog : Program} {w : World} {scope : Scope} {x : Str} {k : Nat} {j : Nat} {p1 p2 p3 : Pos} (hk : scope.kind = .function) (hl : scope.names.lookup x = some .local) (hd : (x == ("__debug__" : Str)) = false := by decide)
    {cenv : Env} {A' : Around} {E' : Value → Shared → Prop} {b : Addr} {its : Array Value} {n : Int} {t : Tok} {s₂ : Shared} {m₂ : Str → Option Value} (hs : cenv.scope = scope) (hn : s₂.heap.Ns cenv.locals m₂) (hm : m₂ x = some (.ref b)) (ht : IsTup s₂.heap b its) (hz : its.size ≤ sizeLine) (hx : its[k]? = some (.int n t)) :
    wpAny (model prog w) A' (eval (.Subscript (.Name x p1) (.Constant (.int (k : Int)) j p2) p3) cenv) (fun y s₃ => y = .int n t ∧ Keeps s₂ s₃) E' s₂ := by
  refine PySem.wpAny_Subscript_Constant_late ?_
  refine wpAny_Name (wpAny_loadName_local (by rw [hs]; exact hk) (show cenv.scope.names.lookup x = some .local by rw [hs]; exact hl) hn hm ?_) hd
  refine wpAny_Constant_int ?_
  have hlt : k < its.size := by
    rcases Nat.lt_or_ge k its.size with h | h
    · exact h
    · rw [Array.getElem?_eq_none h] at hx; cases hx
  have l63 := line63
  have ht' : IsTup ({ s₂ with toks := s₂.toks + 1 } : Shared).heap b its := ht
  refine ⟨"tuple", _, slot_tuple_getitem.lookup, ht'.typeIs, ?_⟩
  refine getItem_tuple (j := k) ht' (by omega) (by omega) ?_ hx ⟨rfl, GxR.keeps_tok _ _⟩
  have h1 : ¬ ((k : Int) < 0) := by omega
  simp [seqIndex?, h1, hlt]
section
variable {X : Cx} {pins : List (Addr × Obj)} {σ : L2.St} {H : Hp} {s : Shared}
/-- the generator g, ready to be walked, in the state s5; H1: what was held before -/
def ReadyN (X : Cx) (pins : List (Addr × Obj)) (σ : L2.St) (H1 : Hp) (P : Addr) (ns : List Int) (g : Addr) (s5 : Shared) : Prop :=
  ∃ (fp wr : List Addr) (G : Array GenState → Array GenState → Prop) (F : Nat → Value → Prop) (St : Nat → Shared → Prop),
    WalksS X.prog X.w X.A.in1 g fp wr G ns.length F St ∧ St 0 s5 ∧ (∀ b ∈ fp, b < s5.heap.objs.size) ∧
    (∀ j v, F j v → ∃ (t : Tok), v = .int (ns.getD j 0) t) ∧
    ∀ s', Moved wr G s5 s' → ∃ H2, GxR.Tabbed P H1 H2 ∧ Inv X pins σ H2 s'
/-- what is asked of the items: tuples with an int at k -/
def ItemsK (K : PySem.W.Frag) (H : Hp) (k : Nat) (xs : List V) (ns : List Int) : Prop := xs.length = ns.length ∧ ∀ (i : Nat) (v : V), xs[i]? = some v → ∃ b ys, v = .ref b ∧ SqT K H b ys ∧ ys[k]? = some (.int (ns.getD i 0))
theorem gen_tup {c P : Addr} {iter : Expr} {x : Str} {px gpos p1 p2 p3 : Pos} {scope : Scope} {te : TE} {kk k j : Nat} {Q' : Value → Shared → Prop} {R : List Int → Hp → Prop}
    (hr : Room kk X.A) (TB : GxR.TabB X.base X.mg c P) (hcode : X.env.code = .ref c) (S : GxR.GenS X.env scope x) (hi : PE X iter te) (hd : (x == ("__debug__" : Str)) = false)
    (hs : ∀ v, genFold iter X.env v = pure v) (I : Inv X pins σ H s) (h : te σ H fun v H1 => ∃ (yl : Addr) (xs : List V) (ns : List Int), v = .ref yl ∧ SqT X.K H1 yl xs ∧ ItemsK X.K H1 k xs ns ∧ GxR.TabG H1 P ∧ R ns H1)
    (hQ : ∀ ns H1 g s5, R ns H1 → ReadyN X pins σ H1 P ns g s5 → Q' (.ref g) s5) :
    wpAny (model X.prog X.w) X.A (eval (.GeneratorExp (.Subscript (.Name x p1) (.Constant (.int (k : Int)) j p2) p3) [⟨.Name x px, iter, [], 0⟩] scope gpos) X.env) Q' X.xe s := by
  refine wpAny_GeneratorExp_walksQ hr.hd S.co (closure_ok S.free) S.cell S.dot S.loc S.kind (by have := hr.dp; omega) ?_ hs
  refine thn (hi.run pins s σ H _ I h) fun xv s1 ⟨v, H1, I1, r1, q1⟩ => ?_
  obtain ⟨yl, xs, ns, rfl, hyl, ⟨hln, hit⟩, ⟨ps, hP, ht⟩, q1⟩ := q1
  obtain rfl : xv = Value.ref yl := r1
  obtain ⟨its, rv, hl, hz⟩ := I1.tuple hyl
  have hIL : s1.heap.IsTuple yl its.toArray := let ⟨o, e1, e2, e3⟩ := hl; ⟨o, e1, e2, e3⟩
  have hlen : its.length = ns.length := by rw [← rv.length]; exact hln
  have hat : ∀ (i : Nat) (v : Value), its.toArray[i]? = some v → ∃ (b : Addr) (zs : Array Value) (t : Tok), v = .ref b ∧ IsTup s1.heap b zs ∧ zs.size ≤ sizeLine ∧ zs[k]? = some (.int (ns.getD i 0) t) := fun i v hv => by
    have hv2 : its[i]? = some v := by simpa using hv
    have hi2 : i < its.length := (List.getElem?_eq_some_iff.mp hv2).1
    obtain ⟨a, ha⟩ : ∃ a, xs[i]? = some a := ⟨xs[i]'(by omega), List.getElem?_eq_getElem _⟩
    obtain ⟨b, ys, rfl, hb, hk⟩ := hit i a ha
    obtain ⟨u, hu, ru⟩ := rv.get ha
    rw [hv2] at hu
    cases hu
    obtain rfl : v = Value.ref b := ru
    obtain ⟨zs, rz, pz, hz2⟩ := I1.tuple hb
    obtain ⟨u, hu, ru⟩ := rz.get hk
    obtain ⟨t, rfl⟩ := (show ∃ t, u = Value.int (ns.getD i 0) t from ru)
    exact ⟨b, zs.toArray, t, rfl, pz, by rw [List.size_toArray, ← rz.length]; exact hz2, by simpa using hu⟩
  refine wpAny_pyIter_tuple hIL ?_
  generalize ho : ({ cls := .type "tuple_iterator", data := .fields #[.ref yl, .int 0 0] } : Obj) = o
  have hitr : (s1.heap.push o).IsTupleIter s1.heap.objs.size yl 0 := by
    subst ho
    exact ⟨_, Heap.get?_push_size _ rfl, rfl, rfl⟩
  have hylt : yl < s1.heap.objs.size := by
    obtain ⟨_, e, _⟩ := _root_.id hIL
    exact Heap.lt_size e
  have hPs : s1.heap.get? P = some { cls := .none, data := .fields ps } := I1.hok P _ hP
  have hPlt : P < s1.heap.objs.size := Heap.lt_size hPs
  have hP2 : (s1.heap.push o).get? P = some { cls := .none, data := .fields ps } := Heap.get?_push_of_some _ hPs
  have cd : PySem.W.CodeHd (s1.heap.push o) c P := TB.code.keeps fun b u e => Heap.get?_push_of_some _ (I1.bk b u e)
  have lim2 : (s1.heap.push o).NoLimit := I1.nolimit.push o
  have cont : ∀ (code : Value) (h3 : Heap) (tk : Nat) (ps' : Array Value), Heap.ExtBut P (s1.heap.push o) h3 → (s1.heap.push o).objs.size ≤ h3.objs.size → h3.get? P = some { cls := .none, data := .fields ps' } → (∃ more, ps' = ps ++ more) → TriplesOk ps'.toList →
      wpAny (model X.prog X.w) X.A (builtinsFor X.env.globals X.env.builtins) (fun bi s₄ =>
        ∃ Ia fp wr n₀ Pf St₀ pz F, Value.ref s1.heap.objs.size = .ref Ia ∧ (∀ A' : Around, A'.handled = none → Walks X.prog X.w A' Ia fp wr n₀ Pf St₀) ∧ St₀ 0 s₄.heap ∧ (∀ b ∈ fp, b < s₄.heap.objs.size) ∧ s₄.heap.NoLimit ∧ cStatics ∉ wr ∧
          (∀ href : Heap, (∀ b o, s₄.heap.get? b = some o → href.get? b = some o) →
            QuietGen X.prog X.w (genEnv scope (cloFrom X.env.cells scope.names []) s₄.heap.objs.size code bi X.env) x [] (.Subscript (.Name x p1) (.Constant (.int (k : Int)) j p2) p3) (List.range s₄.heap.objs.size) wr Pf pz F href) ∧
          (∀ a h₅ tk gs, gs.bare = true → s₄.heap.objs.size < a → h₅.objs.size = a + 1 → (∀ b o, s₄.heap.get? b = some o → h₅.get? b = some o) →
            WalksS X.prog X.w X.A.in4 a (a :: s₄.heap.objs.size :: List.range s₄.heap.objs.size) (s₄.heap.objs.size :: wr) (GenOnlyQ s₄.gens.size) (passing pz n₀ 0).length
              (fun j y => ∃ i, (passing pz n₀ 0)[j]? = some i ∧ F i y) (GenAt X.prog X.w X.A.in4 a s₄.gens.size s₄.heap.objs.size (List.range s₄.heap.objs.size) wr pz n₀ F) →
            GenAt X.prog X.w X.A.in4 a s₄.gens.size s₄.heap.objs.size (List.range s₄.heap.objs.size) wr pz n₀ F 0 { s₄ with gens := s₄.gens.push gs, toks := tk, heap := h₅ } →
            Q' (.ref a) { s₄ with gens := s₄.gens.push gs, toks := tk, heap := h₅ })) X.xe { s1 with heap := h3, toks := tk } := by
    intro code h3 tk ps' hx hsz hP3 hmore ht3
    obtain ⟨bm, ob, e1, e2, e3, e4, e5, e6, e7, e8⟩ := TB.bm
    have hcP : cStatics ≠ P := fun e => by
      obtain ⟨_, hns, _⟩ := I1.nolimit
      obtain ⟨o', es, ep, ho, hd, _⟩ := hns
      rw [e, hPs] at ho
      cases ho
      cases hd
    have hcl : cStatics < s1.heap.objs.size := let ⟨_, hns, _⟩ := I1.nolimit; hns.lt
    have sz2 : (s1.heap.push o).objs.size = s1.heap.objs.size + 1 := Heap.size_push ..
    have keep3 : ∀ b u, b ≠ P → s1.heap.get? b = some u → h3.get? b = some u := fun b u hb e => hx b u hb (Heap.get?_push_of_some _ e)
    refine wpAny_builtinsFor (m := X.mg) (by rw [I1.ok.glob]; exact ((I1.mod.glob.keeps I1.bk).push o).extBut hx TB.gP) e1 e2 (keep3 _ _ e4 (I1.bk _ _ e5)) e6 e7 e8 ?_
    have notP : ∀ {b : Addr} {zs : Array Value}, IsTup s1.heap b zs → b ≠ P := fun {b zs} hb z => by
      obtain ⟨_, e, hc1, _, hd1⟩ := _root_.id hb
      rw [z, hPs] at e
      cases e
      cases hd1
    have hIL3 : h3.IsTuple yl its.toArray := by
      obtain ⟨ob, e, r⟩ := _root_.id hIL
      exact ⟨ob, keep3 _ _ (notP hl) e, r⟩
    have hItr3 : h3.IsTupleIter s1.heap.objs.size yl 0 := hitr.at fun u e => hx _ u (Nat.ne_of_gt hPlt) e
    refine ⟨s1.heap.objs.size, [s1.heap.objs.size, yl], [s1.heap.objs.size], its.toArray.size, (fun i v => its.toArray[i]? = some v), (fun i h => h.IsTupleIter s1.heap.objs.size yl i ∧ h.IsTuple yl its.toArray), (fun _ => true),
      (fun i y => ∃ (t : Tok), i < ns.length ∧ y = .int (ns.getD i 0) t), rfl, (fun A' hA => Walks.tuple hA _ _ (Nat.ne_of_lt hylt) _), ⟨hItr3, hIL3⟩, ?_, lim2.extBut hx hcP, ?_, ?_, ?_⟩
    · intro b hb
      rcases List.mem_cons.mp hb with z | z
      · rw [z]
        show s1.heap.objs.size < h3.objs.size
        omega
      · rcases List.mem_cons.mp z with z | z
        · rw [z]
          have e9 : s1.heap.objs.size ≤ h3.objs.size := by omega
          exact Nat.lt_of_lt_of_le hylt e9
        · cases z
    · intro z
      rcases List.mem_cons.mp z with z | z
      · exact Nat.ne_of_lt hcl z
      · cases z
    · intro href hhref
      refine ⟨fun A' E' i v s₂ m₂ hA hPv hn hm hk => ?_, fun A' E' i v s₂ m₂ hA hPv hp hn hm hk => ?_⟩
      · simp only [List.forIn_nil]
        exact wpAny_pure ⟨rfl, GxR.keeps_refl _⟩
      · obtain ⟨b, zs, t, rfl, hb, hz2, hzk⟩ := hat i v hPv
        have hi2 : i < ns.length := by
          have := (Array.getElem?_eq_some_iff.mp hPv).1
          rw [List.size_toArray] at this
          omega
        have hb2 : IsTup s₂.heap b zs := by
          obtain ⟨ob, e, r⟩ := _root_.id hb
          have hlt := Heap.lt_size e
          refine ⟨ob, hk b (List.mem_range.mpr ?_) (fun z => ?_) ob (hhref b ob (keep3 b ob (notP hb) e)), r⟩
          · exact Nat.lt_of_lt_of_le hlt (by omega : s1.heap.objs.size ≤ h3.objs.size)
          · rcases List.mem_cons.mp z with z | z
            · exact Nat.ne_of_lt hlt z
            · cases z
        exact wpAny_mono (elt_ix (scope := scope) S.kind S.loc hd rfl hn hm hb2 hz2 hzk) (fun y s3 r => ⟨⟨t, hi2, r.1⟩, r.2⟩) fun _ _ e => e
    · intro g h5 tk5 gs hgb hag hsz5 hk5 W5 hgat
      simp only [GxR.passing_true, List.length_range] at W5
      have hn5 : its.toArray.size = ns.length := by rw [List.size_toArray, hlen]
      rw [hn5] at W5 hgat
      refine hQ ns H1 g _ q1 ⟨_, _, _, _, _, W5.in4_1, hgat, ?_, ?_, fun s' hm => ?_⟩
      · intro b hb
        show b < h5.objs.size
        have e5 : h5.objs.size = g + 1 := hsz5
        have h8 : h3.objs.size < g := hag
        rw [e5]
        rcases List.mem_cons.mp hb with z | z
        · rw [z]
          exact Nat.lt_succ_self g
        · rcases List.mem_cons.mp z with z | z
          · rw [z]
            exact Nat.lt_succ_of_lt h8
          · have z2 := List.mem_range.mp z
            have h7 : b < h3.objs.size := z2
            exact Nat.lt_succ_of_lt (Nat.lt_trans h7 h8)
      · intro j v hv
        obtain ⟨i, hij, t, hi3, e⟩ := hv
        obtain ⟨hj, ej⟩ := List.getElem?_eq_some_iff.mp hij
        rw [List.getElem_range] at ej
        subst ej
        exact ⟨t, e⟩
      · obtain ⟨more, em⟩ := hmore
        have nwr : ∀ b u, s1.heap.get? b = some u → b ∉ h3.objs.size :: [s1.heap.objs.size] := fun b u e hb => by
          have hl := Heap.lt_size e
          rcases List.mem_cons.mp hb with z | z
          · rw [z] at hl
            have h9 : (h3.objs.size : Nat) < s1.heap.objs.size := hl
            omega
          · rcases List.mem_cons.mp z with z | z
            · rw [z] at hl
              exact Nat.lt_irrefl _ hl
            · cases z
        have J := GxR.inv_tab (more := more) (h' := s'.heap) (g' := s'.gens) (d' := s'.drawn) (t' := s'.toks) I1 hP (fun b u hb e => hm.heap b u (nwr b u e) (hk5 b u (keep3 b u hb e)))
          (by rw [← em]; exact hm.heap P _ (nwr P _ hPs) (hk5 P _ hP3)) (AllBare.movedS (I1.bare.push hgb) hm)
        rw [GxR.sh_eta s1 s' hm.os] at J
        refine ⟨upd H1 P (.tbl (ps ++ more)), ⟨⟨ps ++ more, upd_same, by rw [← em]; exact ht3⟩, fun b hb => upd_ne hb⟩, J⟩
  refine ⟨lim2, ?_⟩
  cases hf : codeAmong gpos ps.toList with
  | none =>
    refine wpAny_genexprCodeX hcode (cd.code hP2 ht) (cd.tab hP2) hf fun c' h' tk hx hge hlt hco' _ htab' _ => ?_
    obtain ⟨o1, vs, f1, tf, fl, tg, inF, tx, tt, op, _, _, _, _, _, _, _, _, _, htr, _⟩ := hco'
    exact cont _ h' tk _ hx (Nat.le_trans hge (Nat.le_of_lt hlt)) htab'.2 ⟨_, rfl⟩ htr
  | some cv =>
    refine wpAny_genexprCode_hit hcode (cd.code hP2 ht) hf ?_
    exact cont cv (s1.heap.push o) s1.toks ps (Heap.ExtBut.refl _ _) (Nat.le_refl _) hP2 ⟨#[], by simp⟩ ht
/-- sum(x[k] for x in e), e a tuple of tuples -/
def tSumN (K : PySem.W.Frag) (P : Addr) (k : Nat) (te : TE) : TE := fun σ H Q => te σ H fun v H1 => ∃ (yl : Addr) (xs : List V) (ns : List Int), v = .ref yl ∧ SqT K H1 yl xs ∧ ItemsK K H1 k xs ns ∧ GxR.TabG H1 P ∧ ∀ H2, GxR.Tabbed P H1 H2 → Q (.int ns.sum) H2
theorem preSum_is (ns : List Int) : ∀ n, n ≤ ns.length → preSum (fun j => ns.getD j 0) n = (ns.take n).sum
  | 0, _ => rfl
  | n + 1, h => by
    have h0 : n < ns.length := by omega
    have e : ns[n]? = some (ns.getD n 0) := by
      rw [List.getD_eq_getElem?_getD, List.getElem?_eq_getElem h0]; rfl
    show preSum (fun j => ns.getD j 0) n + ns.getD n 0 = _
    rw [preSum_is ns n (by omega), List.take_succ, e]
    simp
theorem pe_sumN {c P : Addr} {iter : Expr} {x : Str} {px p pos gpos p1 p2 p3 : Pos} {scope : Scope} {te : TE} {kk k j : Nat}
    (hr : Room kk X.A) (hg : Gl X "sum") (hm : X.mg "sum" = none) (TB : GxR.TabB X.base X.mg c P) (hcode : X.env.code = .ref c) (S : GxR.GenS X.env scope x) (hi : PE X iter te) (hd : (x == ("__debug__" : Str)) = false)
    (hs : ∀ v, genFold iter X.env v = pure v)
    (he : starEach [.GeneratorExp (.Subscript (.Name x p1) (.Constant (.int (k : Int)) j p2) p3) [⟨.Name x px, iter, [], 0⟩] scope gpos] X.env = (false, eval (.GeneratorExp (.Subscript (.Name x p1) (.Constant (.int (k : Int)) j p2) p3) [⟨.Name x px, iter, [], 0⟩] scope gpos) X.env) :: starEach [] X.env := by rfl) :
    PE X (.Call (.Name "sum" p) [.GeneratorExp (.Subscript (.Name x p1) (.Constant (.int (k : Int)) j p2) p3) [⟨.Name x px, iter, [], 0⟩] scope gpos] [] pos) (tSumN X.K P k te) := by
  refine ⟨fun pins s σ H Q I h => ?_⟩
  refine wpAny_Call_Name_kw (ld_blt I hg hm (by decide +kernel : bootBuiltins "sum" = some (.builtin "sum")) ?_)
  refine PyProof.Rows.callWith_builtin1 ?_ he (by rfl)
  rw [he]
  show wpAny _ _ (spliced ((false, eval (.GeneratorExp (.Subscript (.Name x p1) (.Constant (.int (k : Int)) j p2) p3) [⟨.Name x px, iter, [], 0⟩] scope gpos) X.env) :: backTo pos (starEach [] X.env))) _ _ s
  refine Calls.spliced_cons (gen_tup (R := fun ns H1 => ∀ H2, GxR.Tabbed P H1 H2 → Q (.int ns.sum) H2) hr TB hcode S hi hd hs I h fun ns H1 g s5 hR hG => ?_)
  obtain ⟨fp, wr, G, F, St, W, hst, hfp, hv, hI⟩ := hG
  refine Calls.spliced_nil ?_
  refine call_sum_walkAnyS (W.self 0 _ _ _ hst ⟨g, fp, wr, G, _, F, St, fun j => ns.getD j 0, rfl, W, hst, hfp, hv, fun s' t' hmv => ?_⟩)
  obtain ⟨H2, hT, J⟩ := hI s' hmv
  refine ⟨.int _, H2, J, ⟨t', ?_⟩, hR H2 hT⟩
  rw [preSum_is ns ns.length (Nat.le_refl _), List.take_length]
end
end TpG

namespace Tp
open PySem L2
/-! ### sum of a generator expression -/
section
variable {X : Cx} {B : Bx} {W : WX} {r : List Sl} {e : Expr} {pos p : Pos} {kk : Nat}
theorem evSumG {α : Type} {L : List α} {gd : α → D} {f : α → Int} {k j : Nat} {c Pt : Addr} {x : Str} {px gpos p1 p2 p3 : Pos} {scope : Scope} (g : Go X W kk) (he : ES X B e r true (L.map gd)) (hf : ∀ u, ∃ ys, gd u = .tuple ys ∧ ys[k]? = some (.int (f u))) (TB : GxR.TabB X.base X.mg c Pt) (hcode : X.env.code = .ref c) (hP : Pt ∈ B.ts) (hm : X.mg "sum" = none)
    (hg : Gl X "sum" := by rfl) (S : GxR.GenS X.env scope x := by exact ⟨rfl, rfl, by decide +kernel, rfl, rfl, fun y hy h => absurd h (by revert y; decide +kernel)⟩) (hd : (x == ("__debug__" : Str)) = false := by decide) (hs : ∀ v, genFold e X.env v = pure v := by intro _; rfl)
    (hst : starEach [.GeneratorExp (.Subscript (.Name x p1) (.Constant (.int (k : Int)) j p2) p3) [⟨.Name x px, e, [], 0⟩] scope gpos] X.env = (false, eval (.GeneratorExp (.Subscript (.Name x p1) (.Constant (.int (k : Int)) j p2) p3) [⟨.Name x px, e, [], 0⟩] scope gpos) X.env) :: starEach [] X.env := by rfl) :
    EV X B (.Call (.Name "sum" p) [.GeneratorExp (.Subscript (.Name x p1) (.Constant (.int (k : Int)) j p2) p3) [⟨.Name x px, e, [], 0⟩] scope gpos] [] pos) r (.int (L.map f).sum) := by
  obtain ⟨t, pp, q⟩ := he
  refine ⟨_, TpG.pe_sumN g.hr hg hm TB hcode S pp hd hs hst, fun H σ S Q z => q H σ S _ fun a vs H1 s1 y ra => ?_⟩
  have S1 := S.mono s1
  obtain ⟨ps, hps, htr⟩ := S1.tb Pt hP
  refine ⟨a, vs, L.map f, rfl, y, ⟨by rw [ra.len, List.length_map, List.length_map], fun i v hv => ?_⟩, ⟨ps, hps, htr⟩, fun H2 hT => ?_⟩
  · obtain ⟨d, hd1, rd⟩ := ra.getV hv
    rw [List.getElem?_map] at hd1
    cases hu : L[i]? with
    | none => rw [hu] at hd1; cases hd1
    | some u =>
      rw [hu] at hd1
      obtain ⟨ys, e1, e2⟩ := hf u
      have e3 : d = .tuple ys := by rw [← e1]; exact (Option.some.inj hd1).symm
      subst e3
      cases rd with
      | tup h1 h2 =>
        obtain ⟨w, hw, rw'⟩ := h2.get e2
        cases rw'
        refine ⟨_, _, rfl, seqT hide_same h1, ?_⟩
        rw [hw, List.getD_eq_getElem?_getD, List.getElem?_map, hu]
        rfl
  · obtain ⟨⟨qs, e1, e2⟩, e3⟩ := hT
    have s2 : Same H1 H2 := fun b o eo => by
      by_cases hb : b = Pt
      · subst hb
        rw [hps] at eo
        cases eo
        exact .inr ⟨ps, qs, rfl, e1, fun _ => e2⟩
      · rw [e3 b hb]
        exact .inl eo
    exact z _ H2 (s1.trans s2) (.int _)
end
/-- a def over data whose code object is known -/
theorem fn_dC {P : Program} {w : World} {T : List Addr} {K : PySem.W.Frag} {mg : Str → Option Value} {base : Heap} {x qual : Str} {st : Stmt} {f cd : Addr} {fd : FuncData} {N ps : List Str} {k : Nat} {c : Ct} (F : Fun K x qual st f fd) (hcd : fd.code = .ref cd) (S : FnScope N ps (defScope st))
    (hl : ∀ ds Q E, c ds Q E → ds.length = ps.length)
    (body : ∀ (A : Around) (outer : List Env) (s : Shared) (H H0 : Hp) (E : XK) (qs : List Addr) (ds : List D) (Q : Rs → Prop) (Ex : Addr → Prop), Go (cxOf (L2.CX P w) P w K mg base N qual (defScope st) f (.ref cd) A outer s H E) (fun cls d _ H => E cls d H) k → c ds Q Ex →
      SV (cxOf (L2.CX P w) P w K mg base N qual (defScope st) f (.ref cd) A outer s H E) ⟨H0, qs, T, []⟩ (fun cls d _ H => E cls d H) (defBody st) (ini N ds) { nx := fun _ => Q (.da .none), rt := fun s _ => Q s, ex := fun C _ => Ex C }) :
    FnOk P w K mg base (L2.CX P w) (k + 1) f fd ps (spD T K c) := by
  have hN : ps.length ≤ N.length := by
    have := congrArg List.length S.pre
    rw [List.length_take] at this
    omega
  obtain ⟨oc, od, kV, doc, pm, an, cdv, ct, osl, e, lk, hc⟩ := F.ex
  subst e
  have e2 : cdv = .ref cd := hcd
  subst e2
  refine fn_of lk hc S (fun vs H Q E h => ?_) fun A outer s H vs Q E hr h => ?_
  · obtain ⟨qs, ds, Po, Ex, _, _, ra, hc, _⟩ := h
    rw [ra.len]
    exact hl _ _ _ hc
  · obtain ⟨qs, ds, Po, Ex, tb, hp, ra, hc, k1, k2⟩ := h
    have G : Go (cxOf (L2.CX P w) P w K mg base N qual (defScope st) f (.ref cd) A outer s H E) (fun cls d _ H => E cls d H) k :=
      ⟨hr, rfl, passes_of rfl, takes_of rfl rfl rfl rfl, S.nd⟩
    refine ⟨_, wS_ok, body A outer s H H E qs ds Po Ex G hc H _ _ (sok_ini tb hp ra (by rw [hl _ _ _ hc]; exact hN)) ⟨fun r σ' H' S' hq => ?_, fun s v r σ' H' S' y hq => k1 s v H' S'.ex (y.sub fun p hp => List.mem_append_right _ hp) hq, fun _ _ _ _ z => z.elim, fun _ _ _ _ z => z.elim, fun C r σ' H' S' hx => k2 C H' S'.ex hx⟩⟩
    exact k1 (.da .none) .non H' S'.ex (show Rp K _ V.non .none from .non) hq
/-! ### the head -/
theorem dfl_none {K : PySem.W.Frag} {dV : Value} (h : DflV K dV []) : dV = .none := h.elim (fun z => z.2) fun z => absurd rfl z.1
theorem fun_D {K : PySem.W.Frag} {x qual : Str} {st : Stmt} {f : Addr} {fd : FuncData} {kws : List (Str × V)} (F : FunD K x qual (defArgs st) (defBody st) (defScope st) [] kws f fd) : Fun K x qual st f fd := by
  obtain ⟨oc, od, dV, kV, doc, pm, an, cdv, ct, osl, e, lk, hcd, hD, hK⟩ := F.ex
  have := dfl_none hD
  subst this
  exact ⟨⟨oc, od, kV, doc, pm, an, cdv, ct, osl, e, lk, hcd⟩, F.kp⟩
theorem code_D {K : PySem.W.Frag} {p : He.Defn} {x qual : Str} {pr : Arguments} {b : List Stmt} {sc : Scope} {fd : FuncData} {dvs : List V} {kws : List (Str × V)} (F : FunD K x qual pr b sc dvs kws (He.fAd K p) fd) : fd.code = .ref (He.cT K p).1 := by
  obtain ⟨oc, od, dV, kV, doc, pm, an, cdv, ct, osl, e, lk, hcd, hD, hK⟩ := F.ex
  obtain ⟨c, e2⟩ := He.codeIn_ref hcd
  subst e
  have e3 : (PySem.W.fnOf x qual pr b sc dV kV doc pm an cdv ct).code = .ref c := e2
  rw [e3]
  show _ = Value.ref (He.codeOf K p)
  rw [He.codeOf_eq lk e3]
/-- a keyword-only default that is an object -/
def kwdAt (p : He.Defn) (x : Str) (K : PySem.W.Frag) : Addr := match K.lookup (He.fAd K p) with
  | some ⟨_, _, .func fd, _⟩ => (match fd.kwdefaults with
    | .ref D => (match PySem.W.nsIn K D x with
      | some (some (.ref a)) => a
      | _ => 0)
    | _ => 0)
  | _ => 0
def tupI (K : PySem.W.Frag) (a : Addr) (ns : List Int) : Bool := match K.lookup a with
  | some ⟨.type c, _, .seq its _, _⟩ => decide (c = "tuple") && (decide (its.size ≤ sizeLine) && He.relAll (ns.map V.int) its.toList)
  | _ => false
theorem tupI_ok {K : PySem.W.Frag} {a : Addr} {ns : List Int} (h : tupI K a ns = true) (H : Hp) : SqT K H a (ns.map V.int) := by
  unfold tupI at h
  cases q : K.lookup a with
  | none => rw [q] at h; cases h
  | some o =>
    obtain ⟨oc, od, dt, osl⟩ := o
    rw [q] at h
    cases oc with
    | type c =>
      cases dt with
      | seq its n =>
        obtain ⟨h1, h2⟩ := He.ba (show (decide (c = "tuple") && (decide (its.size ≤ sizeLine) && He.relAll (ns.map V.int) its.toList)) = true from h)
        obtain ⟨h3, h4⟩ := He.ba h2
        exact .inr ⟨_, its, n, q, congrArg Value.type (of_decide_eq_true h1), rfl, of_decide_eq_true h3, He.relAll_ok h4⟩
      | _ => cases h
    | _ => cases dt <;> cases h
theorem tupI_rp {K : PySem.W.Frag} {a : Addr} {ns : List Int} (h : tupI K a ns = true) : Rp K (fun _ => none) (.ref a) (.tuple (ns.map PyData.int)) := .tup (tupI_ok h _) RpA.ints
def subB (K : PySem.W.Frag) (a b : Addr) (k : Bool) : Bool := decide (PySem.W.subIn K (.ref a) (.ref b) = some k)
def excB (K : PySem.W.Frag) (C : Addr) : Bool :=
  He.eqO (PySem.W.findIn K (.ref C) "__getattribute__") (some (some (.builtin "BaseException.__getattribute__"))) && (He.eqO (PySem.W.findIn K (.ref C) "__getattr__") (some none) && (decide (PySem.W.subIn K (.ref C) (.type "BaseException") = some true) && (PySem.W.hasDictIn K C && (He.eqO (PySem.W.findIn K (.ref C) "__class__") (some (some (.builtin "object.__class__"))) &&
    (He.eqO (PySem.W.specialIn K (.builtin "object.__class__") "__get__") (some (some (.builtin "getset_descriptor.__get__"))) && (decide (PySem.W.takesIn K (.builtin "object.__class__") = some true) && decide (PySem.W.mroIn K C (.type "object") = some true)))))))
theorem excB_ok {K : PySem.W.Frag} {C : Addr} (h : excB K C = true) : ExcC K C := by
  obtain ⟨h1, h⟩ := He.ba h
  obtain ⟨h2, h⟩ := He.ba h
  obtain ⟨h3, h⟩ := He.ba h
  obtain ⟨h4, h⟩ := He.ba h
  obtain ⟨h5, h⟩ := He.ba h
  obtain ⟨h6, h⟩ := He.ba h
  obtain ⟨h7, h8⟩ := He.ba h
  exact ⟨He.eqO_ok h1, He.eqO_ok h2, of_decide_eq_true h3, h4, He.eqO_ok h5, He.eqO_ok h6, of_decide_eq_true h7, of_decide_eq_true h8⟩
theorem xct_ok {K : PySem.W.Frag} {h : Heap} {mg : Str → Option Value} {x : Str} (X : K.In h) (G : h.Ns mainGlobals mg) (c1 : (He.Fa.glo x).ok K = true) (c2 : (He.Fa.exc x).ok K = true) (c3 : excB K (He.ga K x) = true) : XcT K mg x (He.ga K x) := by
  obtain ⟨e1, e2, e3, e4⟩ := He.exc_ok c2
  exact ⟨He.glo_ok X G c1, e2, e1, e4, excB_ok c3⟩
/-- a law's promise -/
def LawC (c : Ct) : Prop := ∀ ns : List Int, ns.length ≤ 63 → c [.list (ns.map PyData.int)] (fun s => s = .da (.bool true)) fun _ => False
theorem law_at {l : PySem.W.OpenLaw} {w : World} {K : PySem.W.Frag} {k : Nat} {x : Str} {mg : Str → Option Value} {fa : Addr} {h : Heap} {fd : FuncData} {cs : List (Addr × Addr)} {c : Ct} (X : K.In h) (hT : ∀ p ∈ cs, h.get? p.2 = some { cls := .none, data := .fields #[] }) (nT : ∀ p ∈ cs, K.lookup p.2 = none) (C : ∀ p ∈ cs, PySem.W.codeHdIn K p.1 p.2 = true)
    (hb : ∀ (s : Shared) (u : Value), BindsTo s fd ⟨[u], []⟩ [(x, u)]) (hc : LawC c)
    (F : ∀ base : Heap, K.In base → base.Ns mainGlobals mg → (∀ p ∈ cs, GxR.TabB base mg p.1 p.2) → FnOk l.prog w K mg base (L2.CX l.prog w) k fa fd [x] (spD (cs.map (·.2)) K c)) : LamX.LawAtS l w K (L2.CX l.prog w) k 63 x mg fa h :=
  ⟨fd, cs, spD (cs.map (·.2)) K c, hT, nT, fun p hp => PySem.W.codeHd_of_K X (C p hp), hb, fun H a ns hl _ hH hS => ⟨[], [.list (ns.map PyData.int)], fun s => s = .da (.bool true), fun _ => False, fun t ht => by
    obtain ⟨p, hp, e⟩ := List.mem_map.mp ht
    subst e
    exact ⟨#[], hH p hp, trivial⟩, (fun _ z => by cases z), .one (.lst (Same.seq (fun a o e => by rw [hide_out (List.not_mem_nil)]; exact .inl e) hS) RpA.ints), hc ns hl, fun s v H' _ y e => by subst e; cases y; rfl, fun _ _ _ z => z⟩, fun base B1 B2 B3 => F base B1 B2 fun p hp => ⟨(B3 p hp).code, (B3 p hp).bm, (B3 p hp).gP⟩⟩
end Tp

/-! set comprehensions, whatever the set holds -/
namespace TpS
open PySem PySem.Spec PyProof.Rows L2 PpSet
section
variable {X : Cx}
/-- a family of sets: So D c is the set at D in the state c; Ok asks of the item, Af tells the state behind an addition -/
structure Fam (X : Cx) (κ γ : Type) where
  So : Addr → γ → HO
  c0 : γ
  Ok : Addr → V → κ → γ → Hp → Prop
  Af : V → κ → γ → γ → Prop
  new : ∀ (H : Hp) (h : Heap), ObjOk X.prog X.w H (h.push { cls := .type "set", dict := none, data := .set #[] 0 (.fresh 0 0 (!X.w.params.followText "set-order")) }) h.objs.size (So h.objs.size c0)
  add : ∀ {Y : Cx} {pins : List (Addr × Obj)} {σ : L2.St} {H : Hp} {s : Shared} {E : Value → Shared → Prop} {D : Addr} {k : κ} {c : γ} {y : V} {u : Value} {Q : Value → Shared → Prop}, Y.prog = X.prog → Y.w = X.w → Y.K = X.K → Y.A = X.A → Inv Y pins σ H s → RelV y u → H D = some (So D c) → Ok D y k c H →
    (∀ s' c', Inv Y pins σ (upd H D (So D c')) s' → Af y k c c' → Q .none s') → wpAny (model Y.prog Y.w) Y.A (call (.builtin "set.add") [.ref D, u]) Q E s
variable {κ γ : Type}
/-- {elt for tg in iter if ..}: W is kept by every turn -/
def tScG (F : Fam X κ γ) (wi : TI) (g : TG) (tt : TT) (te : TE) (vs : List Nat) : TE := fun σ H Q => wi σ H fun J H1 => ∀ D, H1 D = none → ∃ W : Nat → Nat → Hp → Prop, (∃ m, W 0 m (upd H1 D (F.So D F.c0))) ∧ ∀ i m H, W i m H →
  (J.stop i H ∧ Q (.ref D) H) ∨ (J.go i H ∧ ∃ Nx : Hp → Prop, (∀ H', Nx H' → ∃ m', m' < m ∧ W (i + 1) m' H') ∧ ∀ x H', J.yld i H x H' → g x (wipe σ vs) H' fun σ2 H2 => wipe σ2 vs = wipe σ vs ∧ tt σ2 H2 fun b H3 =>
    if b = true then te σ2 H3 fun y H4 => ∃ c k, H4 D = some (F.So D c) ∧ F.Ok D y k c H4 ∧ ∀ c', F.Af y k c c' → Nx (upd H4 D (F.So D c')) else Nx H3)
abbrev BlkOf (X : Cx) (s : Shared) (H : Hp) (scope : Scope) (cl : List (PySem.Str × Addr)) (C : Addr) (fp : List Addr) : Cx := X.blk s H scope (compEnvC scope cl C X.env) fp
theorem pe_scG (F : Fam X κ γ) {elt tg iter : Expr} {ifs : List Expr} {scope : Scope} {own : List (PySem.Str × Nat)} {pos : Pos} {wi : TI} {g : TG} {tt : TT} {te : TE} (hc : X.calm = true) (hN : X.N.Nodup) (hi : PI X tg iter wi) (ok : BlkOk X.N X.env.scope scope own)
    (hg : ∀ s H C cl fp, PG (BlkOf X s H scope cl C fp) tg g) (ht : ∀ s H C cl fp, PTs (BlkOf X s H scope cl C fp) ifs tt) (he : ∀ s H C cl fp, PE (BlkOf X s H scope cl C fp) elt te) (hs : ∀ x, foldedSetIterable iter X.env x = pure x := by intro _; rfl) :
    PE X (.SetComp elt [⟨tg, iter, ifs, 0⟩] scope pos) (tScG F wi g tt te (own.map (·.2))) := by
  refine ⟨fun pins s σ H Q I h => ?_⟩
  rw [eval_SetComp]
  have free : ∀ y ∈ scope.names, y.2 = .free → ∃ c, X.env.cells.lookup y.1 = some c := fun y hy e => (ok.free y hy e).elim (fun k => I.ok.has _ (.inl k)) fun k => I.ok.has _ (.inr k)
  refine wpAny_comprehension_free (use := none) rfl hs (closure_ok free) ok.kind (fun y hy e => by rw [ok.uniq y hy, e]) (thn (hi.run pins s σ H _ I h) fun xv s1 hx => thn hx fun itv s2 h2 => ?_)
  obtain ⟨it, fp, tn, J, H2, e, I2, T, st2, f2, q⟩ := h2
  subst e
  refine newSet_ok (newEnv_comp ?_)
  generalize hD : s2.heap.objs.size = D
  have hDn : H2 D = none := I2.hok.fresh (Nat.le_of_eq hD)
  obtain ⟨W, ⟨m0, w0⟩, turn⟩ := q D hDn
  -- the new set stands
  obtain ⟨s3, e3⟩ : ∃ z : Shared, z = { s2 with heap := s2.heap.push { cls := .type "set", dict := none, data := .set #[] 0 (.fresh 0 0 (!X.w.params.followText "set-order")) } } := ⟨_, rfl⟩
  have up3 : ∀ b o, s2.heap.get? b = some o → s3.heap.get? b = some o := fun b o z => by rw [e3]; exact Heap.get?_push_of_some _ z
  obtain ⟨H3, eH⟩ : ∃ z : Hp, z = upd H2 D (F.So D F.c0) := ⟨_, rfl⟩
  have I3 : Inv X pins σ H3 s3 := by
    rw [e3, eH]
    refine I2.laid (t' := s2.toks) (fun b o e => Heap.get?_push_of_some _ e) (Nat.le_of_eq hD) ?_
    rw [← hD]
    exact F.new _ _
  have f3 : ∀ b ∈ fp, FpOk X pins H3 b ∧ b < s3.heap.objs.size := fun b hb => by
    obtain ⟨o, e, _⟩ := T.obj _ _ st2 b hb
    have lt := Heap.lt_size e
    refine ⟨⟨?_, (f2 b hb).2⟩, by rw [e3, Heap.size_push]; exact Nat.lt_succ_of_lt lt⟩
    rw [eH, upd_ne (by rw [← hD]; exact Nat.ne_of_lt lt)]
    exact (f2 b hb).1
  have I4 := block_start I3 ok hN f3
  rw [← eH] at w0
  rw [← e3]
  generalize hcl : cellsFrom (s3.heap.objs.size + 1) scope.names (cloFrom X.env.cells scope.names []) = cl at I4
  have pg := hg s3 H3 s3.heap.objs.size cl fp
  have pt := ht s3 H3 s3.heap.objs.size cl fp
  have pe := he s3 H3 s3.heap.objs.size cl fp
  obtain ⟨s4, e4⟩ : ∃ z : Shared, z = { s3 with heap := pushCells (s3.heap.push { cls := .type "dict", data := .dict #[] }) scope.names } := ⟨_, rfl⟩
  rw [← e4] at I4
  have st4 : tn 0 s4.heap := T.keep _ _ _ st2 fun b _ o e => by rw [e4]; exact pushCells_keeps _ _ _ _ (Heap.get?_push_of_some _ (up3 b o e))
  have at_ : ∀ {σ' : L2.St} {H' : Hp} {s' : Shared}, Inv (BlkOf X s3 H3 scope cl s3.heap.objs.size fp) [] σ' H' s' → (∀ b ∈ fp, H' b = none) → ∀ b ∈ fp, FpOk (BlkOf X s3 H3 scope cl s3.heap.objs.size fp) [] H' b := fun {σ' H' s'} I' hn b hb =>
    ⟨hn b hb, (I'.ok.exf b hb).1, I'.ok.exfs b hb, .inl hb, fun x c e => (I'.ok.exf b hb).2 x c e, fun p hp => absurd (show p ∈ ([] : List (Addr × Obj)) ++ [] from hp) (by simp)⟩
  let P5 : Nat → Shared → Prop := fun n s' => ∃ i H', Inv (BlkOf X s3 H3 scope cl s3.heap.objs.size fp) [] (wipe σ (own.map (·.2))) H' s' ∧ tn i s'.heap ∧ (∀ b ∈ fp, H' b = none) ∧ W i n H'
  have loop : codeAny (model X.prog X.w) X.A (.compLoop (.SetComp elt [⟨tg, iter, ifs, 0⟩] scope pos) 0 (.ref it) (.ref D) (compEnvC scope cl s3.heap.objs.size X.env)) (compPost (model X.prog X.w) X.A X.xe none (EP X pins σ Q) (.ref D) s3.heap.objs.size) s4 := by
    refine compLoopS_any P5 ?_ m0 ⟨0, H3, I4, st4, fun b hb => (f3 b hb).1.1, w0⟩
    rintro n s5 ⟨i, H5, I5, st5, n5, w5⟩
    rcases turn i n H5 w5 with ⟨stop, qq⟩ | ⟨go, Nx, hNx, step⟩
    · refine thnF (T.done (BlkOf X s3 H3 scope cl s3.heap.objs.size fp) rfl rfl rfl hc i [] s5 _ H5 (fun _ _ => False) I5 (at_ I5 n5) st5 stop) fun r s6 ⟨hr, I6⟩ => ?_
      subst hr
      have I7 : Inv X pins σ H5 s6 := I3.call' (ch := fp) I6.os I6.base I6.hok I6.bare fun b hb => let z := (f3 b hb).1.2; ⟨z.2.2.1, z.1, z.2.2.2.1, z.2.2.2.2⟩
      have nC : H5 s3.heap.objs.size = none := I6.free
      obtain ⟨m, hn, _⟩ := I6.loc
      have fC := I3.fpOk (Nat.le_refl _) nC
      refine ⟨m, hn, fun h'' sb => ?_⟩
      obtain ⟨f0, f1, f2, f3, f4, f5⟩ := fC
      exact ⟨.ref D, H5, I7.turned (t' := s6.toks) (fun b o hb e => (sb.2 b hb).trans e) f0 f1 f3 f4 f5, rfl, qq⟩
    · refine thnF (T.item (BlkOf X s3 H3 scope cl s3.heap.objs.size fp) rfl rfl rfl hc i [] s5 _ H5 (fun _ _ => False) I5 (at_ I5 n5) st5 go) fun r s6 ⟨u, hr, h6⟩ => ?_
      subst hr
      refine thnF h6 fun _ s7 ⟨x, H7, I7, r7, y7, st7, n7⟩ => ?_
      refine thnF (pg.run _ s7 _ H7 x u _ (I7.pinned (at_ I7 n7) (T.obj _ _ st7)) r7 (step x H7 y7)) fun _ s8 ⟨σ8, H8, I8, hw8, q8⟩ => ?_
      refine thnF (pt.run _ s8 σ8 H8 _ I8 q8) fun b s9 ⟨H9, I9, q9⟩ => ?_
      have fin : ∀ {s' : Shared} {H' : Hp}, Inv (BlkOf X s3 H3 scope cl s3.heap.objs.size fp) ([] ++ pinsAt fp s7.heap) σ8 H' s' → Nx H' → ∃ m, m < n ∧ P5 m s' := fun {s' H'} I' nx => by
        obtain ⟨m', hm, w'⟩ := hNx H' nx
        have pin : ∀ b ∈ fp, ∀ o, s7.heap.get? b = some o → s'.heap.get? b = some o ∧ H' b = none := fun b hb o e =>
          let z := I'.pin (b, o) (List.mem_append_right _ (List.mem_append_right _ (mem_pinsAt hb e))); ⟨z.1, z.2.1⟩
        refine ⟨m', hm, i + 1, H', (I'.unpinned (pins := [])).weak (by rw [← hw8, wipe_length]) (fun j v e => ?_), T.keep _ _ _ st7 fun b hb o e => (pin b hb o e).1, fun b hb => ?_, w'⟩
        · rw [← hw8] at e
          exact (wipe_some e).1
        · obtain ⟨o, e, _⟩ := T.obj _ _ st7 b hb
          exact (pin b hb o e).2
      cases b with
      | false =>
        simp only [Bool.false_eq_true, if_false] at q9 ⊢
        exact fin I9 q9
      | true =>
        simp only [if_true] at q9 ⊢
        refine thnF (pe.run _ s9 σ8 H9 _ I9 q9) fun z s10 ⟨yv, H10, I10, r10, c, kk, hD10, hok, nx⟩ => ?_
        exact F.add (Y := BlkOf X s3 H3 scope cl s3.heap.objs.size fp) rfl rfl rfl rfl I10 r10 hD10 hok fun s11 c' I11 af => fin I11 (nx c' af)
  rw [e4] at loop st4
  subst hcl
  exact codeAny_compStart_set loop (T.self X.A 0 _ _ _ st4 loop)
/-! ### sets of tuples of ints -/
theorem addT {pins : List (Addr × Obj)} {σ : L2.St} {H : Hp} {s : Shared} {E : Value → Shared → Prop} {D x : Addr} {k : List Int} {L : List (Addr × List Int)} {Q : Value → Shared → Prop} (I : Inv X pins σ H s) (hu : X.A.units + 64 < cLine) (hD : H D = some (SetTO X.prog X.w D L))
    (hL : ∀ p ∈ L, SqT X.K H p.1 (p.2.map V.int)) (hx : SqT X.K H x (k.map V.int)) (few : L.length + 1 < 64)
    (h : ∀ s' L', Inv X pins σ (upd H D (SetTO X.prog X.w D L')) s' → (k ∈ L.map (·.2) → L' = L) → (k ∉ L.map (·.2) → L'.Perm ((x, k) :: L)) → Q .none s') : wpAny (model X.prog X.w) X.A (call (.builtin "set.add") [.ref D, .ref x]) Q E s := by
  obtain ⟨es, ep, t, R⟩ := (show SetT0 X.prog X.w s.heap D L from (I.hok D _ hD).1).full fun p hp => I.isT (hL p hp)
  have hT : s.TypeIs (.ref D) "set" := by
    obtain ⟨o, ho, hex, hd⟩ := R.ob
    exact ⟨o, ho, hex.1⟩
  refine wpAny_call_entry F.slot_set_add hT F.entry_set_add ?_ (F.args_set_add_2 _ _)
  unfold Builtin.«set.add» Builtin.Frozenset.oneOther
  simp only [List.isEmpty_nil, bind_assoc]
  unfold Builtin.Frozenset.addrOf setAdd
  refine wpAny_bind (wpAny_pure ?_)
  try dsimp only
  refine wpAny_bind (wpAny_pure ?_)
  try dsimp only
  refine wpAny_bind (wpAny_holding ?_)
  refine wpAny_bind (wpAny_pyHash_tuple (by simp only [Around.in1_units]; omega) (I.isT hx) ?_)
  refine add_at (s := { s with toks := s.toks + (k.length + 1) }) R (I.isT hx) (by simp only [Around.in1_units]; omega) few fun b h' L' es' ep' t' sb R' c1 c2 => ?_
  show wpAny _ _ (ret Value.none) _ _ _
  refine wpAny_pure ⟨_, rfl, h _ L' ?_ c1 c2⟩
  exact I.write (e := D) (t' := s.toks + (k.length + 1)) (by rw [hD]; trivial) (.inl rfl) (fun b u hb hu => (sb.2 b hb).trans hu) (let ⟨o, ho, _⟩ := R'.ob; ⟨o, ho⟩) (setTO_new R'.t0)
/-- the sets of tuples of ints -/
def famT (X : Cx) (hu : X.A.units + 64 < cLine) : Fam X (List Int) (List (Addr × List Int)) where
  So := fun D L => SetTO X.prog X.w D L
  c0 := []
  Ok := fun D y k L H => ∃ x, y = .ref x ∧ (∀ p ∈ L, SqT X.K H p.1 (p.2.map V.int)) ∧ SqT X.K H x (k.map V.int) ∧ L.length + 1 < 64
  Af := fun y k L L' => ∃ x, y = .ref x ∧ (k ∈ L.map (·.2) → L' = L) ∧ (k ∉ L.map (·.2) → L'.Perm ((x, k) :: L))
  new := fun H h => setTO_new (setTR_fresh (Heap.get?_push_size _ rfl)).t0
  add := by
    intro Y pins σ H s E D k c y u Q e1 e2 e3 e4 I r hD ok h
    obtain ⟨x, rfl, a1, a2, a3⟩ := ok
    cases (show u = Value.ref x from r)
    rw [← e3] at a1 a2
    rw [← e1, ← e2] at hD h
    exact addT I (by rw [e4]; exact hu) hD a1 a2 a3 fun s' L' I' c1 c2 => h s' L' I' ⟨x, rfl, c1, c2⟩
/-- len of such a set -/
def rLenT (K : PySem.W.Frag) (P : Program) (w : World) : List V → Hp → VK → Prop := fun vs H Q => ∃ (a : Addr) (L : List (Addr × List Int)), vs = [V.ref a] ∧ H a = some (SetTO P w a L) ∧ (∀ p ∈ L, SqT K H p.1 (p.2.map V.int)) ∧ Q (.int L.length) H
theorem cr_lenT : CallR X (.builtin "len") (rLenT X.K X.prog X.w) := by
  intro pins s σ H vs us Q I r h
  obtain ⟨a, L, rfl, ha, hk, q⟩ := h
  obtain ⟨es, ep, t, R⟩ := (show SetT0 X.prog X.w s.heap a L from (I.hok a _ ha).1).full fun p hp => I.isT (hk p hp)
  rw [Vals.ref1 r]
  obtain ⟨o, ho, hex, hd⟩ := R.ob
  have hs := R.size
  have hf := R.few
  exact call_len_set ho hex hd R.fits (by rw [hs]; omega) ⟨.int L.length, H, I.tok _, ⟨_, by rw [hs]⟩, q⟩
end
end TpS
namespace Tp
open PySem L2 TpS PpSet
/-- the different keys -/
def addK (ks : List (List Int)) (k : List Int) : List (List Int) := if k ∈ ks then ks else k :: ks
def dis (l : List (List Int)) : List (List Int) := l.foldl addK []
theorem dis_snoc (l : List (List Int)) (k : List Int) : dis (l ++ [k]) = addK (dis l) k := by unfold dis; rw [List.foldl_append]; rfl
theorem dis_mem : ∀ (l acc : List (List Int)) (x : List Int), x ∈ l.foldl addK acc ↔ x ∈ acc ∨ x ∈ l
  | [], acc, x => by simp
  | a :: l, acc, x => by
    rw [List.foldl_cons, dis_mem l]
    unfold addK
    split
    · constructor
      · rintro (h | h)
        · exact .inl h
        · exact .inr (List.mem_cons_of_mem _ h)
      · rintro (h | h)
        · exact .inl h
        · rcases List.mem_cons.mp h with rfl | h
          · exact .inl (by assumption)
          · exact .inr h
    · rw [List.mem_cons, List.mem_cons]
      constructor
      · rintro ((h | h) | h)
        · exact .inr (.inl h)
        · exact .inl h
        · exact .inr (.inr h)
      · rintro (h | h | h)
        · exact .inl (.inr h)
        · exact .inl (.inl h)
        · exact .inr h
theorem dis_len_acc : ∀ (l acc : List (List Int)), (l.foldl addK acc).length ≤ acc.length + l.length ∧ ((l.foldl addK acc).length = acc.length + l.length ↔ l.Nodup ∧ ∀ x ∈ l, x ∉ acc)
  | [], acc => by simp
  | a :: l, acc => by
    rw [List.foldl_cons]
    have ih := dis_len_acc l (addK acc a)
    by_cases h : a ∈ acc
    · have e : addK acc a = acc := if_pos h
      rw [e] at ih ⊢
      refine ⟨by rw [List.length_cons]; omega, ⟨fun z => by rw [List.length_cons] at z; omega, fun z => absurd h (z.2 a List.mem_cons_self)⟩⟩
    · have e : addK acc a = a :: acc := if_neg h
      rw [e] at ih ⊢
      rw [List.length_cons] at ih ⊢
      refine ⟨by omega, ⟨fun z => ?_, fun z => ?_⟩⟩
      · obtain ⟨h1, h2⟩ := ih.2.mp (by omega)
        refine ⟨List.nodup_cons.mpr ⟨fun m => h2 a m List.mem_cons_self, h1⟩, fun x hx => ?_⟩
        rcases List.mem_cons.mp hx with rfl | hx
        · exact h
        · exact fun m => h2 x hx (List.mem_cons_of_mem _ m)
      · have := ih.2.mpr ⟨(List.nodup_cons.mp z.1).2, fun x hx m => by
          rcases List.mem_cons.mp m with rfl | m
          · exact (List.nodup_cons.mp z.1).1 hx
          · exact z.2 x (List.mem_cons_of_mem _ hx) m⟩
        omega
theorem dis_le (l : List (List Int)) : (dis l).length ≤ l.length := by have := (dis_len_acc l []).1; rw [List.length_nil] at this; unfold dis; omega
theorem dis_lt (l : List (List Int)) : (dis l).length < l.length ↔ ¬ l.Nodup := by
  have h := dis_len_acc l []
  rw [List.length_nil, Nat.zero_add] at h
  unfold dis
  constructor
  · intro z nd
    have := h.2.mpr ⟨nd, fun x _ => by simp⟩
    omega
  · intro z
    rcases Nat.lt_or_ge (l.foldl addK []).length l.length with y | y
    · exact y
    · exact absurd (h.2.mp (by omega)).1 z
section
variable {X : Cx} {B : Bx} {W : WX} {r : List Sl} {a elt : Expr} {pos p : Pos} {k : Nat} {x : Str}
def ScP (X : Cx) (B : Bx) (r : List Sl) (ix : Nat) (σ : St) (H1 : Hp) (Dl : Addr) (ks : List (List Int)) (H' : Hp) : Prop :=
  Same H1 H' ∧ SOk X.K ⟨hide H' (own r), Dl :: B.ps, B.ts, B.gr⟩ r H' (σ.set ix none) ∧ Dl ∉ gown B.gr ∧ ∃ L, H' Dl = some (SetTO X.prog X.w Dl L) ∧ (L.map (·.2)).Perm ks ∧ ∀ p ∈ L, SqT X.K H' p.1 (p.2.map V.int)
theorem ScP.start {ix : Nat} {σ : St} {H1 : Hp} {Dl : Addr} (h0 : r[ix]? = some .no) (S : SOk X.K B r H1 σ) (hD : H1 Dl = none) : ScP X B r ix σ H1 Dl [] (upd H1 Dl (SetTO X.prog X.w Dl [])) := by
  have S' := S.setNo (i := ix)
  rw [set_self h0] at S'
  exact ⟨same_new hD, S'.dock hD, fun z => S.dom Dl (List.mem_append_right _ (S.gp Dl z)) hD, [], upd_same, .nil, fun p hp => nomatch hp⟩
theorem ScP.see {ix : Nat} {σ : St} {H1 H' : Hp} {Dl : Addr} {ks : List (List Int)} (hD : H1 Dl = none) (p : ScP X B r ix σ H1 Dl ks H') : Same (hid B r H1) (hide H' (own r ++ Dl :: B.ps)) := fun b u eb => by
  have eb : hide H1 (own r ++ B.ps) b = some u := eb
  by_cases hb : b ∈ own r ++ B.ps
  · rw [hide_in hb] at eb; cases eb
  · rw [hide_out hb] at eb
    have nb : b ≠ Dl := ne_of_none eb hD
    rw [hide_out fun z => (List.mem_append.mp z).elim (fun y => hb (List.mem_append_left _ y)) fun y => (List.mem_cons.mp y).elim nb fun y => hb (List.mem_append_right _ y)]
    exact p.1 _ _ eb
theorem sc_turn {hu : X.A.units + 64 < cLine} {ix : Nat} {scope : Scope} {σ : St} {H1 H' : Hp} {Dl : Addr} {ks : List (List Int)} {kf : List Int} {dv : D} {v : V} (h0 : r[ix]? = some .no) (hD : H1 Dl = none) (hk : ks.length + 1 < 64)
    (he : ∀ s H0 C cl fp H' q', EV (Blk X scope s H0 cl C fp) ⟨H', q', B.ts, B.gr⟩ elt (r.set ix (.im dv)) (.tuple (kf.map .int)))
    (p : ScP X B r ix σ H1 Dl ks H') (hv : Rp X.K (hide H' (own r ++ Dl :: B.ps)) v dv) :
    gName ix v (wipe σ [ix]) H' fun σ2 H2 => wipe σ2 [ix] = wipe σ [ix] ∧ tYes σ2 H2 fun b H3 =>
      if b = true then (fun σ H Q => ∀ s H0 C cl fp, wE (Blk X scope s H0 cl C fp) elt σ H Q : TE) σ2 H3 fun y H4 => ∃ c k, H4 Dl = some ((famT X hu).So Dl c) ∧ (famT X hu).Ok Dl y k c H4 ∧ ∀ c', (famT X hu).Af y k c c' → ScP X B r ix σ H1 Dl (addK ks kf) (upd H4 Dl ((famT X hu).So Dl c')) else ScP X B r ix σ H1 Dl (addK ks kf) H3 := by
  obtain ⟨p1, S, pg, L, p2, p3, p4⟩ := p
  show (((σ.set ix none).set ix (some v)).set ix none = σ.set ix none) ∧ _
  refine ⟨by rw [List.set_set, List.set_set], ?_⟩
  have S2 : SOk X.K ⟨hide H' (own r), Dl :: B.ps, B.ts, B.gr⟩ (r.set ix (.im dv)) H' ((σ.set ix none).set ix (some v)) := S.im hv
  simp only [tYes, if_true]
  intro s H0 C cl fp
  obtain ⟨t, pt, kt⟩ := he s H0 C cl fp (hide H' (own r)) (Dl :: B.ps)
  refine ⟨t, pt, kt H' _ S2 _ fun y H4 s4 ry => ?_⟩
  have p2' : H4 Dl = some (SetTO X.prog X.w Dl L) := s4.k p2
  have hl : L.length = ks.length := by rw [← p3.length_eq, List.length_map]
  have hL4 : ∀ p ∈ L, SqT X.K H4 p.1 (p.2.map V.int) := fun p hp => seqT s4 (p4 p hp)
  have ry : Rp X.K (hide H4 (own (r.set ix (.im dv)) ++ Dl :: B.ps)) y (.tuple (kf.map .int)) := ry
  cases ry with
  | @tup b xs _ h1 h2 =>
    have e := rp_ints h2
    subst e
    have h1' : SqT X.K H4 b (kf.map V.int) := seqT hide_same h1
    refine ⟨L, kf, p2', ⟨b, rfl, hL4, h1', by omega⟩, fun L' af => ?_⟩
    obtain ⟨b', eb, c1, c2⟩ := af
    cases eb
    have nb : ∀ {q : Addr} {zs : List V}, SqT X.K H4 q zs → SqT X.K (upd H4 Dl (SetTO X.prog X.w Dl L')) q zs := fun {q zs} z => by
      refine z.elim (fun z => .inl ?_) .inr
      by_cases hq : q = Dl
      · subst hq
        rcases z with z | ⟨u, z⟩
        · rw [p2'] at z; exact nomatch z
        · rw [p2'] at z; exact nomatch z
      · rcases z with z | ⟨u, z⟩
        · exact .inl (by rw [upd_ne hq]; exact z)
        · exact .inr ⟨u, by rw [upd_ne hq]; exact z⟩
    have eo : own (r.set ix (.im dv)) = own r := own_set_eq (s := .no) (s' := .im dv) rfl h0
    refine ⟨fun b u eb => ?_, (S.mono s4).redock List.mem_cons_self p2' trivial pg, pg, L', upd_same, ?_, ?_⟩
    · show Ext1 u (upd H4 Dl _ b)
      rw [upd_ne (ne_of_none eb hD)]
      exact (p1.trans s4) b u eb
    · by_cases hm : kf ∈ ks
      · rw [c1 (p3.mem_iff.mpr hm), show addK ks kf = ks from if_pos hm]; exact p3
      · rw [show addK ks kf = kf :: ks from if_neg hm]
        have z : (L'.map (·.2)).Perm (((b, kf) :: L).map (·.2)) := List.Perm.map _ (c2 fun m => hm (p3.mem_iff.mp m))
        exact z.trans (p3.cons kf)
    · intro q hq
      by_cases hm : kf ∈ L.map (·.2)
      · rw [c1 hm] at hq; exact nb (hL4 q hq)
      · rcases List.mem_cons.mp ((c2 hm).mem_iff.mp hq) with rfl | hq
        · exact nb h1'
        · exact nb (hL4 q hq)
/-- {elt for x in a list, a tuple}, elt a tuple of ints: its len -/
theorem evLenSc (ix : Nat) {W : WX} {tp : Bool} {α : Type} {L : List α} {gd : α → D} {kf : α → List Int} {px lp : Pos} {scope : Scope} (g : Go X W k) (hn : ES X B a r tp (L.map gd)) (hz : L.length < 63)
    (he : ∀ s H0 C cl fp H' q' u, u ∈ L → EV (Blk X scope s H0 cl C fp) ⟨H', q', B.ts, B.gr⟩ elt (r.set ix (.im (gd u))) (.tuple ((kf u).map .int))) (hm : X.mg "len" = none) (hg : Gl X "len" := by rfl) (h0 : r[ix]? = some .no := by rfl) (ok : BlkOk X.N X.env.scope scope [(x, ix)] := by exact blkOk_by (by rfl)) (hi : X.N[ix]? = some x := by rfl)
    (hx : Loc (compEnvC scope [] 0 X.env).scope x := by first | exact Or.inl rfl | exact Or.inr rfl) (hf : (scope.names.lookup x == some .cell) = true ∨ (compEnvC scope [] 0 X.env).scope.names.lookup x = some .local := by first | exact Or.inr rfl | exact Or.inl rfl)
    (hs : ∀ v, foldedSetIterable a X.env v = pure v := by intro _; rfl) (hst : NSt X (.SetComp elt [⟨.Name x px, a, [], 0⟩] scope pos) := by exact fun _ => rfl) :
    EV X B (.Call (.Name "len" p) [.SetComp elt [⟨.Name x px, a, [], 0⟩] scope pos] [] lp) r (.int (dis (L.map kf)).length) := by
  obtain ⟨ta, pa, ka⟩ := hn
  have hu : X.A.units + 64 < cLine := by have := g.hr.un; omega
  have itm : ∀ {G : Hp} {xs : List V} {i : Nat} {v : V}, RpA X.K G xs (L.map gd) → xs[i]? = some v → ∃ u, L[i]? = some u ∧ Rp X.K G v (gd u) := fun {G xs i v} h2 hv => by
    obtain ⟨d, hd, rd⟩ := h2.getV hv
    rw [List.getElem?_map] at hd
    cases e : L[i]? with
    | none => rw [e] at hd; cases hd
    | some u => rw [e] at hd; cases hd; exact ⟨u, rfl, rd⟩
  have tk : ∀ {i : Nat} {u : α}, L[i]? = some u → dis ((L.take (i + 1)).map kf) = addK (dis ((L.take i).map kf)) (kf u) := fun {i u} e => by
    rw [List.take_succ, e, List.map_append, ← dis_snoc]; rfl
  have few : ∀ i, (dis ((L.take i).map kf)).length + 1 < 64 := fun i => by
    have h1 := dis_le ((L.take i).map kf)
    rw [List.length_map, List.length_take] at h1
    omega
  cases tp with
  | false =>
    refine ⟨_, pe_callB cr_lenT hg hm PySem.boot_len (pa_cons (pe_scG (famT X hu) (own := [(x, ix)]) (te := fun σ H Q => ∀ s H0 C cl fp, wE (Blk X scope s H0 cl C fp) elt σ H Q) g.calm g.nd (pi_list pa) ok (fun s H0 C cl fp => pg_name (i := ix) g.nd hi hx hf) (fun _ _ _ _ _ => pts_nil) (fun s H0 C cl fp => ⟨fun pins s' σ H Q I z => wE_ok.run pins s' σ H Q I (z s H0 C cl fp)⟩) hs) pa_nil (hst _)) (he := hst _), fun H σ S Q q => ?_⟩
    refine ka H σ S _ fun b xs H1 s1 h1 h2 => ?_
    refine ⟨b, rfl, ⟨xs, h1⟩, fun Dl hD => ?_⟩
    have S1 := S.mono s1
    have hl := h2.len
    rw [List.length_map] at hl
    refine ⟨fun i m H' => m = xs.length - i ∧ i ≤ xs.length ∧ ScP X B r ix σ H1 Dl (dis ((L.take i).map kf)) H', ⟨xs.length, rfl, Nat.zero_le _, ScP.start h0 S1 hD⟩, ?_⟩
    rintro i m H' ⟨rfl, hi', p⟩
    have hq : SqL X.K H' b xs := p.1.seq h1
    by_cases hlt : i < xs.length
    · refine .inr ⟨⟨xs, xs[i], hq, by simp [hlt]⟩, ScP X B r ix σ H1 Dl (dis ((L.take (i + 1)).map kf)), fun H'' p' => ⟨xs.length - (i + 1), by omega, rfl, hlt, p'⟩, fun v H'' y => ?_⟩
      obtain ⟨rfl, y⟩ := y
      obtain ⟨u, eu, ru⟩ := itm h2 (y xs hq)
      rw [tk eu]
      exact sc_turn (hu := hu) h0 hD (few i) (fun s H0 C cl fp H' q' => he s H0 C cl fp H' q' u (List.mem_of_getElem? eu)) p (ru.mono (p.see hD))
    · have e : i = xs.length := by omega
      subst e
      refine .inl ⟨⟨xs, hq, Nat.le_refl _⟩, ?_⟩
      rw [hl, List.take_length] at p
      obtain ⟨q1, _, _, L', q2, q3, q4⟩ := p
      refine ⟨Dl, L', rfl, q2, q4, ?_⟩
      have e : L'.length = (dis (L.map kf)).length := by rw [← q3.length_eq, List.length_map]
      rw [e]
      exact q _ _ (s1.trans q1) (.int _)
  | true =>
    refine ⟨_, pe_callB cr_lenT hg hm PySem.boot_len (pa_cons (pe_scG (famT X hu) (own := [(x, ix)]) (te := fun σ H Q => ∀ s H0 C cl fp, wE (Blk X scope s H0 cl C fp) elt σ H Q) g.calm g.nd (pi_tup pa) ok (fun s H0 C cl fp => pg_name (i := ix) g.nd hi hx hf) (fun _ _ _ _ _ => pts_nil) (fun s H0 C cl fp => ⟨fun pins s' σ H Q I z => wE_ok.run pins s' σ H Q I (z s H0 C cl fp)⟩) hs) pa_nil (hst _)) (he := hst _), fun H σ S Q q => ?_⟩
    refine ka H σ S _ fun b xs H1 s1 h1 h2 => ?_
    refine ⟨b, rfl, ⟨xs, h1⟩, fun Dl hD => ?_⟩
    have S1 := S.mono s1
    have hl := h2.len
    rw [List.length_map] at hl
    refine ⟨fun i m H' => m = xs.length - i ∧ i ≤ xs.length ∧ ScP X B r ix σ H1 Dl (dis ((L.take i).map kf)) H', ⟨xs.length, rfl, Nat.zero_le _, ScP.start h0 S1 hD⟩, ?_⟩
    rintro i m H' ⟨rfl, hi', p⟩
    have hq : SqT X.K H' b xs := seqT p.1 h1
    by_cases hlt : i < xs.length
    · refine .inr ⟨⟨xs, xs[i], hq, by simp [hlt]⟩, ScP X B r ix σ H1 Dl (dis ((L.take (i + 1)).map kf)), fun H'' p' => ⟨xs.length - (i + 1), by omega, rfl, hlt, p'⟩, fun v H'' y => ?_⟩
      obtain ⟨rfl, y⟩ := y
      obtain ⟨u, eu, ru⟩ := itm h2 (y xs hq)
      rw [tk eu]
      exact sc_turn (hu := hu) h0 hD (few i) (fun s H0 C cl fp H' q' => he s H0 C cl fp H' q' u (List.mem_of_getElem? eu)) p (ru.mono (p.see hD))
    · have e : i = xs.length := by omega
      subst e
      refine .inl ⟨⟨xs, hq, Nat.le_refl _⟩, ?_⟩
      rw [hl, List.take_length] at p
      obtain ⟨q1, _, _, L', q2, q3, q4⟩ := p
      refine ⟨Dl, L', rfl, q2, q4, ?_⟩
      have e : L'.length = (dis (L.map kf)).length := by rw [← q3.length_eq, List.length_map]
      rw [e]
      exact q _ _ (s1.trans q1) (.int _)
end
end Tp

/-! x in list; new lists handed back -/
namespace Tp
open PySem L2
section
variable {X : Cx} {B : Bx} {W : WX} {P : Po} {r q : List Sl} {e a b o tg : Expr} {es : List Expr} {rest body orelse : List Stmt} {d dx dy : D} {ds : List D} {pos pos' p : Pos} {k kk : Nat}
theorem cv_inD (hu : X.A.units + 65 < cLine) (h1 : Shp 64 d) (h2 : Shp 64 (.list ds)) : CV X .In d (.list ds) (ds.any fun z => PyData.eqv z d) :=
  ⟨_, op_inD hu, fun H x y rx ry Q q => ⟨d, ds, rx.dp h1, ry.dp h2, h1.shaped, h2.shaped, q⟩⟩
theorem cv_ninD (hu : X.A.units + 65 < cLine) (h1 : Shp 64 d) (h2 : Shp 64 (.list ds)) : CV X .NotIn d (.list ds) (!ds.any fun z => PyData.eqv z d) :=
  ⟨_, op_notInD hu, fun H x y rx ry Q q => ⟨d, ds, rx.dp h1, ry.dp h2, h1.shaped, h2.shaped, q⟩⟩
theorem any_int {α : Type} {f : α → Int} {i : Int} : ∀ (l : List α), ((l.map fun x => PyData.int (f x)).any fun z => PyData.eqv z (.int i)) = l.any fun x => decide (f x = i)
  | [] => rfl
  | x :: l => by
    show (PyData.eqv (.int (f x)) (.int i) || _) = _
    rw [any_int l, List.any_cons]
    congr 1
theorem Go.un65 (g : Go X W kk) : X.A.units + 65 < cLine := by have := g.hr.un; omega
theorem cv_inI {α : Type} {f : α → Int} {l : List α} {i : Int} (g : Go X W kk) : CV X .In (.int i) (.list (l.map fun x => PyData.int (f x))) (l.any fun x => decide (f x = i)) := by
  rw [← any_int]; exact cv_inD g.un65 .int (.lst (ShpA.map (fun x => .int) l))
theorem cv_ninI {α : Type} {f : α → Int} {l : List α} {i : Int} (g : Go X W kk) : CV X .NotIn (.int i) (.list (l.map fun x => PyData.int (f x))) (!l.any fun x => decide (f x = i)) := by
  rw [← any_int]; exact cv_ninD g.un65 .int (.lst (ShpA.map (fun x => .int) l))
theorem EV.seqQ {tp : Bool} (h : EV X B e r (sqD tp ds)) : ES X B e r tp ds := by
  cases tp with
  | true => exact EV.seqT h
  | false => exact EV.seq h
/-- t[lo:hi], the whole of it or not -/
theorem evSlTA {lo hi : Option Expr} {l u : Option Int} {p2 : Pos} (h : EV X B e r (.tuple ds)) (hl : EO X B lo r l) (hu : EO X B hi r u) : EV X B (.Subscript e (.Slice lo hi none p2) pos) r (.tuple (cutD ds l u)) := by
  obtain ⟨t, p, k⟩ := h
  obtain ⟨tl, pl, kl⟩ := hl
  obtain ⟨tu, pu, ku⟩ := hu
  refine ⟨_, pe_slice sl_tupA p pl pu, fun H σ S Q q => k H σ S _ fun v H1 s1 y => kl H1 σ (S.mono s1) _ fun H2 s2 => ku H2 σ (S.mono (s1.trans s2)) _ fun H3 s3 => ?_⟩
  have s23 := s2.trans s3
  have y3 := y.mono (hide_mono (ps := own r ++ B.ps) s23)
  cases y3 with
  | @tup a vs _ h1 z =>
    refine ⟨a, vs, rfl, seqT hide_same h1, fun hw => q _ _ (s1.trans s23) ?_, fun _ l' hl' => q _ _ ((s1.trans s23).trans (same_new hl')) (.tup (SqT.of (hide_new hl' (S.mono (s1.trans s23)).dom)) ((cut_same z _ _).mono (hide_mono (same_new hl'))))⟩
    have e : cutD ds l u = ds := by
      rw [z.len] at hw
      unfold cutD
      rw [hw.1, hw.2, Nat.sub_zero, List.drop_zero, List.take_length]
    rw [e]
    exact .tup h1 z
theorem cut_to {m : Int} (h : 0 ≤ m) : cutD ds none (some m) = ds.take m.toNat := by
  unfold cutD
  have e1 : HT.sIx ds.length 0 none = 0 := rfl
  have e2 : HT.sIx ds.length ds.length (some m) = min m.toNat ds.length := if_neg (by omega)
  rw [e1, e2, List.drop_zero, Nat.sub_zero, ← List.take_take, List.take_length]
theorem cut_from {m : Int} (h : 0 ≤ m) : cutD ds (some m) none = ds.drop m.toNat := by
  unfold cutD
  have e1 : HT.sIx ds.length ds.length none = ds.length := rfl
  have e2 : HT.sIx ds.length 0 (some m) = min m.toNat ds.length := if_neg (by omega)
  rw [e1, e2]
  rcases Nat.le_total m.toNat ds.length with z | z
  · rw [Nat.min_eq_left z, ← List.length_drop, List.take_length]
  · rw [Nat.min_eq_right z, Nat.sub_self, List.take_zero, List.drop_eq_nil_of_le z]
/-- return, of a new list -/
theorem sv_retE (he : EN X B e r (fun p => .ol p ds)) (h : P.rt (.nl ds) r) : SV X B W (.Return (some e) pos :: rest) r P := fun H σ E S kt => by
  obtain ⟨te, p, q⟩ := he
  refine ⟨_, pss_cons (ps_ret p) wS_ok, q H σ S _ fun l o H1 s1 hl _ hv => ?_⟩
  obtain ⟨e1, vs, y, z⟩ := hv
  cases e1
  have S1 := (S.mono s1).mono (same_new (o := o) hl)
  refine kt.rt (.nl ds) _ r σ _ S1 ⟨l, vs, rfl, ?_, y, z.mono fun c u ec => ?_⟩ h
  · cases e2 : B.H0 l with
    | none => rfl
    | some u =>
      obtain ⟨u', e3⟩ := ((S.mono s1).ex l u e2).is
      rw [hl] at e3; cases e3
  · have ec : hide H1 (own r ++ B.ps) c = some u := ec
    by_cases hc : c ∈ own r ++ B.ps
    · rw [hide_in hc] at ec; cases ec
    · rw [hide_out hc] at ec
      have nc : c ≠ l := ne_of_none ec hl
      rw [hide_out fun z => (List.mem_cons.mp z).elim nc hc, upd_ne nc]
      exact .inl ec
/-- xs + e: a new owned list -/
theorem enCatE {xs ys : List D} (ha : EV X B a r (.list xs)) (hb : EV X B b r (.list ys)) (hl : xs.length + ys.length ≤ 100000) : EN X B (.BinOp a .Add b pos) r (fun p => .ol p (xs ++ ys)) := by
  obtain ⟨ta, pa, ka⟩ := ha
  obtain ⟨tb, pb, kb⟩ := hb
  refine ⟨_, pe_op op_catL pa pb, fun H σ S Q g => ka H σ S _ fun v H1 s1 y => kb H1 σ (S.mono s1) _ fun u H2 s2 z => ?_⟩
  have y := y.mono (hide_mono (ps := own r ++ B.ps) s2)
  cases y with
  | lst h1 a1 =>
    cases z with
    | lst h2 a2 =>
      have l1 := a1.len
      have l2 := a2.len
      exact ⟨_, _, _, _, rfl, rfl, hide_same.seq h1, hide_same.seq h2, by rw [l1, l2]; exact line_of hl, fun p hp => g p _ H2 (s1.trans s2) hp rfl ⟨rfl, _, upd_same, a1.app a2⟩⟩
end
end Tp

/-! owned sets of ints; copies of dicts; a display of one pair -/
namespace TpS
open PySem PySem.Spec PyProof.Rows L2
section
variable {X : Cx}
def rSetE : List V → Hp → VK → Prop := fun xs H Q => xs = [] ∧ ∀ p, H p = none → Q (.ref p) (upd H p (.set (fun _ => false) 0))
theorem cr_setE : CallR X (.type "set") rSetE := by
  rintro pins s σ H xs us Q I r ⟨rfl, q⟩
  cases r
  refine setR_new fun R => ?_
  exact ⟨.ref _, upd H s.heap.objs.size (.set (fun _ => false) 0), I.laid (t' := s.toks) (fun b u e => Heap.get?_push_of_some _ e) (Nat.le_refl _) (R.setOf (P := X.prog)), rfl, q _ (I.hok.fresh (Nat.le_refl _))⟩
def rAddI : V → List V → Hp → VK → Prop := fun x xs H Q => ∃ (a : Addr) (k : Int) (S : Int → Bool) (n : Nat), x = V.ref a ∧ xs = [.int k] ∧ H a = some (.set S n) ∧ n + 1 < scanBound ∧ Q .non (upd H a (.set (fun j => S j || decide (j = k)) (if S k = true then n else n + 1)))
theorem mt_addI : MtR X "set.add" rAddI := by
  rintro pins s σ H x xs v us Q I rx rxs ⟨a, k, S, n, rfl, rfl, ha, room, q⟩
  cases rx
  cases rxs with
  | cons ry rt =>
    cases rt
    obtain ⟨t, rfl⟩ := ry
    have hS : s.heap.SetOf (intKind X.prog X.w) a S n := I.hok a _ ha
    refine call_set_add (intKind_is X.prog X.w k t) rfl hS room fun h' sb new => ?_
    obtain ⟨u, hu⟩ : ∃ u, h'.get? a = some u := let ⟨o, _, _, _, ho, _⟩ := new; ⟨o, ho⟩
    exact ⟨.non, _, I.write (e := a) (o := .set (fun j => S j || decide (j = k)) (if S k = true then n else n + 1)) (t' := s.toks + 1) (by rw [ha]; trivial) (.inl rfl) (fun b u hb hu => (sb.2 b hb).trans hu) ⟨u, hu⟩ new, rfl, q⟩
def tAddI (to : TE) (t : TA) : TE := fun σ H Q => to σ H fun x H1 => (∃ a S n, x = V.ref a ∧ H1 a = some (.set S n)) ∧ t σ H1 fun xs H2 => rAddI x xs H2 Q
theorem pe_addI {o e : Expr} {es : List Expr} {to : TE} {t : TA} {apos cpos : Pos} (ho : PE X o to) (ha : PA X (e :: es) t) (hbase : attributeBase o "add" X.env (eval o X.env) = eval o X.env)
    (hfew : ((backTo cpos (starEach (e :: es) X.env)).all (fun x => !x.1) && (backToKw cpos (keywordEach [] X.env)).all (fun x => x.1.isSome) && decide ((e :: es).length + ([] : List Keyword).length + (if ([] : List Keyword).isEmpty then 0 else 1) < 30)) = true)
    (hline : (apos.endLine == cpos.line) = true) (hs : starEach (e :: es) X.env = (false, eval e X.env) :: starEach es X.env) (hplain : (backTo cpos (starEach es X.env)).any (·.1) = false) : PE X (.Call (.Attribute o "add" apos) (e :: es) [] cpos) (tAddI to t) := by
  refine ⟨fun pins s σ H Q I h => wpAny_Call_method_late hbase hfew hline rfl (thn (ho.run pins s σ H _ I h) fun v s1 ⟨x, H1, I1, r1, ⟨a, S, n, ex, hka⟩, q1⟩ => ?_)⟩
  subst ex
  have hS : s1.heap.SetOf (intKind X.prog X.w) a S n := I1.hok a _ hka
  cases r1
  refine ⟨"set", "set.add", F.plainAttrs_set, F.slot_set_add, F.type_set_add, hS.typeIs, hS.noDict, ?_⟩
  have run := ha.run cpos pins s1 σ H1 _ I1 q1
  rw [hs] at run ⊢
  exact Calls.callWith_builtin (by show (false || (backTo cpos (starEach es X.env)).any (·.1)) = false; rw [hplain]; rfl) (Calls.evalArgs_plain (thn run fun us s2 ⟨vs, H2, I2, r2, q2⟩ => mt_addI pins s2 σ H2 (.ref a) vs (.ref a) us Q I2 rfl r2 q2))
def rInI (neg : Bool) : V → V → Hp → VK → Prop := fun x y H Q => ∃ (k : Int) (a : Addr) (S : Int → Bool) (n : Nat), x = .int k ∧ y = V.ref a ∧ H a = some (.set S n) ∧ Q (.bl (if neg then !S k else S k)) H
theorem or_inI : OpR X (compareOp .In) (rInI false) := by
  rintro pins s σ H x y v u Q I rx ry ⟨k, a, S, n, rfl, rfl, ha, q⟩
  cases ry
  obtain ⟨t, rfl⟩ := rx
  exact wpAny_inSet_of (intKind_is X.prog X.w k t) rfl (show s.heap.SetOf (intKind X.prog X.w) a S n from I.hok a _ ha) ⟨.bl (S k), H, I.tok _, rfl, q⟩
theorem or_ninI : OpR X (compareOp .NotIn) (rInI true) := by
  rintro pins s σ H x y v u Q I rx ry ⟨k, a, S, n, rfl, rfl, ha, q⟩
  cases ry
  obtain ⟨t, rfl⟩ := rx
  exact wpAny_notInSet_of (intKind_is X.prog X.w k t) rfl (show s.heap.SetOf (intKind X.prog X.w) a S n from I.hok a _ ha) ⟨.bl (!S k), H, I.tok _, rfl, q⟩
end
end TpS
namespace Tp
open PySem L2 TpS
section
variable {X : Cx} {B : Bx} {W : WX} {P : Po} {r q : List Sl} {e a b o tg : Expr} {es : List Expr} {rest body orelse : List Stmt} {d dx dy : D} {ds : List D} {pos pos' p : Pos} {k kk : Nat} {x : Str} {kvs : List (Key × D)}
theorem enSet0 (hm : X.mg "set" = none) (hg : Gl X "set" := by rfl) : EN X B (.Call (.Name "set" p) [] [] pos) r (fun p => .os p []) := by
  refine ⟨_, pe_callTy0 cr_setE hg hm (by decide +kernel), fun H σ S Q g => ⟨rfl, fun p hp => g p _ H (Same.refl H) hp rfl ⟨rfl, 0, ?_, Nat.le_refl _⟩⟩⟩
  rw [upd_same]
  exact congrArg (fun f => some (HO.set f 0)) (funext fun i => by simp)
/-- x.add(e), x an owned set -/
theorem sv_sadd (i : Nat) {l : Addr} {S0 : List Int} {j : Int} {pc cp : Pos} (hr : r[i]? = some (.os l S0)) (he : EV X B e r (.int j)) (hl : S0.length ≤ 1000) (h : SV X B W rest (r.set i (.os l (j :: S0))) P) (hN : X.N[i]? = some x := by rfl) (hv : Vis X.env.scope x := by first | exact Or.inl rfl | exact Or.inr (Or.inl rfl) | exact Or.inr (Or.inr rfl)) (hd : (x == ("__debug__" : Str)) = false := by decide)
    (hcd : (x == ("__classdict__" : Str)) = false := by decide) (hs : swapsWith (.Call (.Attribute (.Name x pos') "add" pc) [e] [] cp) none pos.line X.env = pure false := by rfl) (hline : (pc.endLine == cp.line) = true := by rfl) (hst : NSt X e := by exact fun _ => rfl) :
    SV X B W (.Expr (.Call (.Attribute (.Name x pos') "add" pc) [e] [] cp) pos :: rest) r P := fun H σ E S kt => by
  obtain ⟨te, pp, q⟩ := he
  obtain ⟨e1, n, y, z⟩ := S.sl i _ hr
  refine ⟨_, pss_cons (ps_expr (pe_addI (pe_var hN hv hd hcd) (pa_cons pp pa_nil (hst _)) (by rfl) (by rw [hst]; rfl) hline (hst _) (by rfl)) hs) wS_ok, _, e1, ⟨_, _, _, rfl, y⟩, q H σ S _ fun v H1 s1 u => ?_⟩
  cases u
  have y1 := s1.k y
  have hb : 2000 < scanBound := by decide
  refine ⟨l, j, _, n, rfl, rfl, y1, by omega, ?_⟩
  have ef : (fun i => decide (i ∈ S0) || decide (i = j)) = fun i => decide (i ∈ j :: S0) := funext fun i => by
    by_cases h1 : i ∈ S0 <;> by_cases h2 : i = j <;> simp [h1, h2]
  rw [ef]
  exact h _ _ E ((S.mono s1).turn hr rfl rfl ⟨e1, _, upd_same, by rw [List.length_cons]; split <;> omega⟩) kt
theorem etSin (i : Nat) {l : Addr} {S0 : List Int} {j : Int} {px : Pos} (hr : r[i]? = some (.os l S0)) (he : EV X B e r (.int j)) (hN : X.N[i]? = some x := by rfl) (hv : Vis X.env.scope x := by first | exact Or.inl rfl | exact Or.inr (Or.inl rfl) | exact Or.inr (Or.inr rfl)) (hd : (x == ("__debug__" : Str)) = false := by decide)
    (hcd : (x == ("__classdict__" : Str)) = false := by decide) (hm : behindInMarks CmpOp.In (.Name x px) = false := by rfl) : EV X B (.Compare e [.In] [.Name x px] pos) r (.bool (decide (j ∈ S0))) := by
  obtain ⟨te, pp, q⟩ := he
  refine ⟨_, pe_cmpR or_inI pp (pe_var hN hv hd hcd) hm, fun H σ S Q g => q H σ S _ fun v H1 s1 u => ?_⟩
  cases u
  obtain ⟨e1, n, y, z⟩ := (S.mono s1).sl i _ hr
  exact ⟨_, e1, j, l, _, n, rfl, rfl, y, g _ H1 s1 (.bl _)⟩
theorem etSnin (i : Nat) {l : Addr} {S0 : List Int} {j : Int} {px : Pos} (hr : r[i]? = some (.os l S0)) (he : EV X B e r (.int j)) (hN : X.N[i]? = some x := by rfl) (hv : Vis X.env.scope x := by first | exact Or.inl rfl | exact Or.inr (Or.inl rfl) | exact Or.inr (Or.inr rfl)) (hd : (x == ("__debug__" : Str)) = false := by decide)
    (hcd : (x == ("__classdict__" : Str)) = false := by decide) (hm : behindInMarks CmpOp.NotIn (.Name x px) = false := by rfl) : EV X B (.Compare e [.NotIn] [.Name x px] pos) r (.bool (!decide (j ∈ S0))) := by
  obtain ⟨te, pp, q⟩ := he
  refine ⟨_, pe_cmpR or_ninI pp (pe_var hN hv hd hcd) hm, fun H σ S Q g => q H σ S _ fun v H1 s1 u => ?_⟩
  cases u
  obtain ⟨e1, n, y, z⟩ := (S.mono s1).sl i _ hr
  exact ⟨_, e1, j, l, _, n, rfl, rfl, y, g _ H1 s1 (.bl _)⟩
theorem etTDin {key : Key} (g : Go X W kk) (he : EV X B e r (kD key)) (ho : EK X B o r kvs) (hm : behindInMarks CmpOp.In o = false := by rfl) : ET X B (.Compare e [.In] [o] pos) r (lkK kvs key).isSome := by
  obtain ⟨t, pp, kp⟩ := ho
  obtain ⟨t', pp', kp'⟩ := he
  refine ⟨_, pt_cmp (pc_din (hu_of g.hr) pp' pp) hm, fun H σ S Q q => kp' H σ S _ fun v H1 s1 w => kp H1 σ (S.mono s1) _ fun a us H2 s2 y z => ?_⟩
  rw [w.key]
  refine ⟨a, _, rfl, DGet.k y, ?_⟩
  rcases z.find (k := key) with ⟨h1, h2⟩ | ⟨v', d', h1, h2, h3⟩
  · rw [h1]; refine ⟨_, rfl, ?_⟩; have := q H2 (s1.trans s2); rw [h2] at this; exact this
  · rw [h1]; refine ⟨_, rfl, ?_⟩; have := q H2 (s1.trans s2); rw [h2] at this; exact this
theorem etTDnin {key : Key} (g : Go X W kk) (he : EV X B e r (kD key)) (ho : EK X B o r kvs) (hm : behindInMarks CmpOp.NotIn o = false := by rfl) : ET X B (.Compare e [.NotIn] [o] pos) r (!(lkK kvs key).isSome) := by
  obtain ⟨t, pp, kp⟩ := ho
  obtain ⟨t', pp', kp'⟩ := he
  refine ⟨_, pt_cmp (pc_dnotin (hu_of g.hr) pp' pp) hm, fun H σ S Q q => kp' H σ S _ fun v H1 s1 w => kp H1 σ (S.mono s1) _ fun a us H2 s2 y z => ?_⟩
  rw [w.key]
  refine ⟨a, _, rfl, DGet.k y, ?_⟩
  rcases z.find (k := key) with ⟨h1, h2⟩ | ⟨v', d', h1, h2, h3⟩
  · rw [h1]; refine ⟨_, rfl, ?_⟩; have := q H2 (s1.trans s2); rw [h2] at this; exact this
  · rw [h1]; refine ⟨_, rfl, ?_⟩; have := q H2 (s1.trans s2); rw [h2] at this; exact this
theorem etTSin (i : Nat) {l : Addr} {S0 : List Int} {j : Int} {px : Pos} (hr : r[i]? = some (.os l S0)) (he : EV X B e r (.int j)) (hN : X.N[i]? = some x := by rfl) (hv : Vis X.env.scope x := by first | exact Or.inl rfl | exact Or.inr (Or.inl rfl) | exact Or.inr (Or.inr rfl)) (hd : (x == ("__debug__" : Str)) = false := by decide)
    (hcd : (x == ("__classdict__" : Str)) = false := by decide) (hm : behindInMarks CmpOp.In (.Name x px) = false := by rfl) : ET X B (.Compare e [.In] [.Name x px] pos) r (decide (j ∈ S0)) := by
  obtain ⟨te, pp, q⟩ := he
  refine ⟨_, pt_cmpR or_inI pp (pe_var hN hv hd hcd) hm, fun H σ S Q g => q H σ S _ fun v H1 s1 u => ?_⟩
  cases u
  obtain ⟨e1, n, y, z⟩ := (S.mono s1).sl i _ hr
  exact ⟨_, e1, j, l, _, n, rfl, rfl, y, _, rfl, g H1 s1⟩
theorem etTSnin (i : Nat) {l : Addr} {S0 : List Int} {j : Int} {px : Pos} (hr : r[i]? = some (.os l S0)) (he : EV X B e r (.int j)) (hN : X.N[i]? = some x := by rfl) (hv : Vis X.env.scope x := by first | exact Or.inl rfl | exact Or.inr (Or.inl rfl) | exact Or.inr (Or.inr rfl)) (hd : (x == ("__debug__" : Str)) = false := by decide)
    (hcd : (x == ("__classdict__" : Str)) = false := by decide) (hm : behindInMarks CmpOp.NotIn (.Name x px) = false := by rfl) : ET X B (.Compare e [.NotIn] [.Name x px] pos) r (!decide (j ∈ S0)) := by
  obtain ⟨te, pp, q⟩ := he
  refine ⟨_, pt_cmpR or_ninI pp (pe_var hN hv hd hcd) hm, fun H σ S Q g => q H σ S _ fun v H1 s1 u => ?_⟩
  cases u
  obtain ⟨e1, n, y, z⟩ := (S.mono s1).sl i _ hr
  exact ⟨_, e1, j, l, _, n, rfl, rfl, y, _, rfl, g H1 s1⟩
/-- dict(d): a new owned dict -/
theorem enDictD {p1 : Pos} (h : EK X B e r kvs) (hm : X.mg "dict" = none) (hg : Gl X "dict" := by rfl) (hst : NSt X e := by exact fun _ => rfl) : EN X B (.Call (.Name "dict" p1) [e] [] pos) r (fun p => .od p kvs) := by
  obtain ⟨t, pp, q⟩ := h
  exact ⟨_, pe_callTy call_dictD hg hm (by decide +kernel) (pa_cons pp pa_nil (hst _)) (he := hst _), fun H σ S Q g => q H σ S _ fun a us H1 s1 y z => ⟨a, us, rfl, .inl y, fun p hp => g p _ H1 s1 hp rfl ⟨rfl, us, upd_same, z⟩⟩⟩
/-- {k: v} -/
theorem evDisp1 {key : Key} (hk : ∀ H' q', EV X ⟨H', q', B.ts, B.gr⟩ a r (kD key)) (hv : ∀ H' q', EV X ⟨H', q', B.ts, B.gr⟩ b r d) : EV X B (.Dict [some a] [b] pos) r (.dict ([(key, d)].map kdm)) := by
  refine ⟨tDisp [(fun σ H Q => wE X a σ H Q, fun σ H Q => wE X b σ H Q)], pe_disp (pps_cons ⟨fun pins s σ H Q I z => wE_ok.run pins s σ H Q I z⟩ ⟨fun pins s σ H Q I z => wE_ok.run pins s σ H Q I z⟩ pps_nil) rfl rfl (by simp) (by simp), fun H σ S Q g => fun p hp => ?_⟩
  have S1 : SOk X.K ⟨hide (upd H p (.dK [])) (own r), p :: B.ps, B.ts, B.gr⟩ r (upd H p (.dK [])) σ := S.dock hp
  obtain ⟨ta, pa, ka⟩ := hk (hide (upd H p (.dK [])) (own r)) (p :: B.ps)
  obtain ⟨tb, pb, kb⟩ := hv (hide (upd H p (.dK [])) (own r)) (p :: B.ps)
  refine ⟨ta, pa, ka _ σ S1 _ fun v H1 s1 y => ⟨tb, pb, kb H1 σ (S1.mono s1) _ fun u H2 s2 z => ?_⟩⟩
  have s12 := s1.trans s2
  have e2 : H2 p = some (.dK []) := s12.k upd_same
  rw [y.key]
  refine ⟨e2, [(key, u)], rfl, by simp, ?_⟩
  have s3 : Same H (upd H2 p (.dK (mergeK [] [(key, u)]))) := fun c o eo => by
    have nc := ne_of_none eo hp
    rw [upd_ne nc]
    exact s12 c o (by rw [upd_ne nc]; exact eo)
  refine g _ _ s3 ?_
  have np : p ∉ own r ++ B.ps := fun m => S.dom p m hp
  refine .dct (kvs := [(key, d)]) (us := [(key, u)]) ?_ (.cons (z.mono fun c o eo => ?_) .nil)
  · show hide _ (own r ++ B.ps) p = _
    rw [hide_out np, upd_same]; rfl
  · have eo : hide H2 (own r ++ p :: B.ps) c = some o := eo
    by_cases hc : c ∈ own r ++ p :: B.ps
    · rw [hide_in hc] at eo; cases eo
    · rw [hide_out hc] at eo
      have nc : c ≠ p := fun m => hc (m ▸ List.mem_append_right _ List.mem_cons_self)
      have hc2 : c ∉ own r ++ B.ps := fun m => hc ((List.mem_append.mp m).elim (fun w => List.mem_append_left _ w) fun w => List.mem_append_right _ (List.mem_cons_of_mem _ w))
      show Ext1 o (hide _ (own r ++ B.ps) c)
      rw [hide_out hc2, upd_ne nc]
      exact .inl eo
end
end Tp

/-! enumerate over a tuple -/
namespace TpS
open PySem PySem.Spec PyProof.Rows L2
def IteT (K : PySem.W.Frag) (a : Addr) : It :=
  ⟨fun i H => ∃ (xs : List V) (x : V), SqT K H a xs ∧ xs[i]? = some x, fun i H v H' => ∃ T x, v = .ref T ∧ H T = none ∧ H' = upd H T (.tup [.int (i : Nat), x]) ∧ ∀ xs, SqT K H a xs → xs[i]? = some x, fun i H => ∃ xs : List V, SqT K H a xs ∧ xs.length = i⟩
theorem tup_apart {h : Heap} {a b : Addr} {its : Array Value} {o : Obj} (p : IsTup h a its) (e : h.get? b = some o) (hc : o.cls ≠ .type "tuple") : a ≠ b := fun z => by
  obtain ⟨o', e', c', _⟩ := p
  rw [z, e] at e'
  cases e'
  exact hc c'
theorem turn_enumT {P : Program} {w : World} {K : PySem.W.Frag} {elts : List Expr} {kk : Nat} {tpos : Pos} (a e it : Addr) :
    Turn P w K (.Tuple elts kk tpos) (IteT K a) [e, it] e (fun i h => (∃ old, IsEnum h e it ((i : Nat) : Int) old) ∧ h.IsTupleIter it a i ∧ e ≠ it) where
  mem := by simp
  obj := fun i h st b hb => by
    obtain ⟨⟨old, he⟩, ⟨o, ho, hc, hd⟩, _⟩ := st
    rcases (show b = e ∨ b = it by simpa using hb) with z | z
    · rw [z]; exact ⟨_, he, fun v q => nomatch q⟩
    · rw [z]; exact ⟨o, ho, fun v q => by rw [hd] at q; cases q⟩
  keep := fun i h h' st k => let ⟨⟨old, he⟩, hi, hne⟩ := st; ⟨⟨old, k e (by simp) _ he⟩, hi.at fun o q => k it (by simp) o q, hne⟩
  item := by
    intro X hP hw hK hc i pins s σ H E I hf st hg
    subst hP hw hK
    obtain ⟨⟨old, he⟩, hit, hne⟩ := st
    obtain ⟨xs, x, hq, hx⟩ := hg
    obtain ⟨its, rv, p, hz⟩ := I.tuple hq
    obtain ⟨u, hu, ru⟩ := rv.get hx
    have hel : e < s.heap.objs.size := Heap.lt_size he
    obtain ⟨oi, hoi, ci, _⟩ := id hit
    have hil : it < s.heap.objs.size := Heap.lt_size hoi
    have hai : a ≠ it := tup_apart p hoi (by rw [ci]; intro z; injection z with z; exact absurd z (by decide))
    have hae : a ≠ e := tup_apart p he (by intro z; injection z with z; exact absurd z (by decide))
    have hlt : i < its.toArray.size := by rw [List.size_toArray]; exact (List.getElem?_eq_some_iff.mp hu).1
    refine wpAny_pyNext_enum_itemD (Draws.tuple (prog := X.prog) (w := X.w) (A := X.A.in1) (I.ok.hd hc) it a hai its.toArray) he ⟨hit, p⟩ hlt hne (by simp [hne, Ne.symm hae]) fun y h' tk hy ho st' hT hsz hk => ?_
    have hyu : y = u := by
      have hy : its.toArray[i]? = some y := hy
      have : its[i]? = some y := by simpa using hy
      rw [hu] at this
      exact (Option.some.inj this).symm
    subst hyu
    refine ⟨_, rfl, wpAny_letOwnedTupleGo_enum (s := { s with heap := h', toks := tk + 1 }) ho fun h'' he' sb => ?_⟩
    have hT2 : h''.get? s.heap.objs.size = some { cls := .type "tuple", data := .seq #[.int i tk, y] } := (sb.2 _ (Nat.ne_of_gt hel)).trans hT
    have new : ObjOk X.prog X.w (upd H s.heap.objs.size (.tup [.int (i : Nat), x])) h'' s.heap.objs.size (.tup [.int (i : Nat), x]) :=
      ⟨by show 2 ≤ sizeLine; decide, [.int i tk, y], .cons ⟨_, rfl⟩ (.cons ru .nil), ⟨_, hT2, rfl, _, rfl⟩⟩
    have I1 : Inv X pins σ (upd H s.heap.objs.size (.tup [.int (i : Nat), x])) { s with heap := h'', toks := tk + 1 } :=
      I.turnedNew (ch := [e, it]) (fun b ob hb q => (sb.2 b (fun z => hb (by simp [z]))).trans (hk b ob (fun z => hb (by simp [z])) (fun z => hb (by simp [z])) q)) hf (Nat.le_refl _) new
    refine ⟨.ref s.heap.objs.size, _, I1, rfl, ⟨_, x, rfl, I.hok.fresh (Nat.le_refl _), rfl, fun ys hy2 => by rw [I.tuple_inj hy2 hq]; exact hx⟩, ⟨⟨y, ?_⟩, st'.1.at fun o q => (sb.2 it (Ne.symm hne)).trans q, hne⟩, fun b hb => ?_⟩
    · have e1 : ((i + 1 : Nat) : Int) = (i : Int) + 1 := by omega
      rw [e1]; exact he'
    · have hb' : b < s.heap.objs.size := by
        rcases (show b = e ∨ b = it by simpa using hb) with z | z
        · rw [z]; exact hel
        · rw [z]; exact hil
      rw [upd_ne (Nat.ne_of_lt hb')]
      exact (hf b hb).1
  done := by
    intro X hP hw hK hc i pins s σ H E I hf st hg
    subst hP hw hK
    obtain ⟨⟨old, he⟩, hit, hne⟩ := st
    obtain ⟨xs, hq, hx⟩ := hg
    obtain ⟨its, rv, p, hz⟩ := I.tuple hq
    obtain ⟨f0, f1, f2, f3, f4, f5⟩ := hf it (by simp)
    obtain ⟨oi, hoi, ci, _⟩ := id hit
    have hai : a ≠ it := tup_apart p hoi (by rw [ci]; intro z; injection z with z; exact absurd z (by decide))
    have hl := rv.length
    have hn : its.toArray.size = i := by rw [List.size_toArray]; omega
    exact wpAny_pyNext_enum_endD (Draws.tuple (prog := X.prog) (w := X.w) (A := X.A.in1) (I.ok.hd hc) it a hai its.toArray) he ⟨by rw [hn]; exact hit, p⟩ fun h' eb => ⟨rfl, I.turned (t' := s.toks) (fun b o hb q => eb b o hb q) f0 f1 f3 f4 f5⟩
  self := fun A i s Q E st h => let ⟨⟨_, he⟩, _⟩ := st; wpAny_pyIter_enum he h
theorem meets_enum1 {v : Value} {o : Obj} {G : Heap → Prop} (B : Begins v o G) :
    Meets (Builtin.«enumerate.__new__» ⟨[.type "enumerate", v], []⟩) (fun _ R s => G s.heap ∧ R (.ok (.ret (.ref (s.heap.push o).objs.size)))
        { s with heap := (s.heap.push o).push { cls := .type "enumerate", data := .fields #[.none, .bool false, .ref s.heap.objs.size, rawInt 0, .none, .none] } }) :=
  .of_wp fun prog w A R s h => by
    obtain ⟨hp, g, d, tk, os⟩ := s
    obtain ⟨h1, h⟩ := h
    have hsub := sub_enumerate
    have q1 : ∀ {A' : Around} {E : Value → Shared → Prop} {Q : Value → Shared → Prop}, Q (.ref hp.objs.size) ⟨hp.push o, g, d, tk, os⟩ → wpAny (model prog w) A' (pyIter v) Q E ⟨hp, g, d, tk, os⟩ :=
      fun q => B.iter prog w _ _ ⟨hp, g, d, tk, os⟩ _ h1 q
    wp_walk using q1
    refine wpAny_stack_any fun st => wpAny_pure ?_
    split
    · rename_i c _ _ _ _ _
      cases (c == Value.type "enumerate")
      · wp_walk using q1
        exact ⟨_, rfl, h⟩
      · wp_walk using q1
        exact ⟨_, rfl, h⟩
    · wp_walk using q1
      exact ⟨_, rfl, h⟩
section
variable {prog : Program} {w : World} {A : Around} {E : Value → Shared → Prop} {s : Shared}
theorem call_enum1 {v : Value} {o : Obj} {G : Heap → Prop} {Q : Value → Shared → Prop} (B : Begins v o G) (h1 : G s.heap)
    (h : ∀ h', IsEnum h' (s.heap.objs.size + 1) s.heap.objs.size 0 .none → h'.get? s.heap.objs.size = some o → h'.objs.size = s.heap.objs.size + 2 → (∀ b o, s.heap.get? b = some o → h'.get? b = some o) → Q (.ref (s.heap.objs.size + 1)) { s with heap := h' }) :
    wpAny (model prog w) A (call (.type "enumerate") [v]) Q E s := by
  refine callType_new F.called_enumerate (by decide) (F.typeCall_enumerate_1 _) (F.newCall_enumerate_1 _) (fun obj => F.args_object_init_2 obj _) F.entry_enumerate_new (meets_enum1 B) ⟨h1, ?_⟩
  have hz : (s.heap.push o).objs.size = s.heap.objs.size + 1 := Heap.size_push ..
  show _ ∧ _
  rw [hz]
  have he : IsEnum ((s.heap.push o).push { cls := .type "enumerate", data := .fields #[.none, .bool false, .ref s.heap.objs.size, rawInt 0, .none, .none] }) (s.heap.objs.size + 1) s.heap.objs.size 0 .none := by
    have := Heap.get?_push_size (s.heap.push o) (o := { cls := .type "enumerate", data := .fields #[.none, .bool false, .ref s.heap.objs.size, rawInt 0, .none, .none] }) rfl
    rw [hz] at this; exact this
  exact ⟨⟨_, he, rfl⟩, h _ he (Heap.get?_push_of_some _ (Heap.get?_push_size _ B.free)) (by rw [Heap.size_push, hz]) fun b o x => Heap.get?_push_of_some _ (Heap.get?_push_of_some _ x)⟩
end
def iEnumT (K : PySem.W.Frag) (ta : TA) : TI := fun σ H R => ta σ H fun vs H1 => ∃ a xs, vs = [.ref a] ∧ SqT K H1 a xs ∧ R (IteT K a) H1
theorem pi_enumT {X : Cx} {e : Expr} {ta : TA} {p pos tpos : Pos} {elts : List Expr} {kk : Nat} (hg : Gl X "enumerate") (hm : X.mg "enumerate" = none) (ha : PA X [e] ta) (hs : starEach [e] X.env = [(false, eval e X.env)]) :
    PI X (.Tuple elts kk tpos) (.Call (.Name "enumerate" p) [e] [] pos) (iEnumT X.K ta) := by
  refine ⟨fun pins s σ H R I h => ?_⟩
  refine Call_ (ld_blt I hg hm boot_enumerate (PyProof.Rows.callWith_type1 (thn (ha.run pos pins s σ H _ I h) fun us s1 ⟨vs, H1, I1, r1, q1⟩ => ?_) hs rfl))
  obtain ⟨a, xs, ex, hq, q⟩ := q1
  subst ex
  rw [Vals.ref1 r1]
  obtain ⟨its, rv, p', hz⟩ := I1.tuple hq
  refine call_enum1 (begins_tuple a its.toArray) (show s1.heap.IsTuple a its.toArray from p') fun h' he hit hsz hk => wpAny_pyIter_enum he ?_
  have I2 : Inv X pins σ H1 { s1 with heap := h' } := I1.kept (t' := s1.toks) hk
  refine ⟨s1.heap.objs.size + 1, [s1.heap.objs.size + 1, s1.heap.objs.size], _, _, H1, rfl, I2, turn_enumT a (s1.heap.objs.size + 1) s1.heap.objs.size, ⟨⟨.none, he⟩, ⟨_, hit, rfl, rfl⟩, Nat.succ_ne_self _⟩, fun b hb => ?_, q⟩
  have hle : s1.heap.objs.size ≤ b := by
    rcases (show b = s1.heap.objs.size + 1 ∨ b = s1.heap.objs.size by simpa using hb) with z | z
    · rw [z]; exact Nat.le_add_right _ _
    · rw [z]; exact Nat.le_refl _
  exact I1.fpOk hle (I1.hok.fresh hle)
theorem for_enumT {K : PySem.W.Frag} {a : Addr} {xs : List V} {g : TG} {tb : TS} {D : Ends} {σ : L2.St} {H : Hp} (Pv : Nat → L2.St → Hp → Prop) (h0 : Pv 0 σ H) (hq : ∀ i σ H, Pv i σ H → SqT K H a xs)
    (hs : ∀ (i : Nat) (x : V) (T : Addr) (σ : L2.St) (H : Hp), xs[i]? = some x → Pv i σ H → H T = none → g (.ref T) σ (upd H T (.tup [.int (i : Nat), x])) fun σ2 H2 => tb { D with nx := Pv (i + 1), ct := Pv (i + 1), bk := D.nx } σ2 H2) (hd : ∀ σ H, Pv xs.length σ H → D.nx σ H) :
    ∃ W : Nat → Nat → L2.St → Hp → Prop, (∃ m, W 0 m σ H) ∧ ∀ i m σ H, W i m σ H →
      ((IteT K a).stop i H ∧ D.nx σ H) ∨ ((IteT K a).go i H ∧ ∃ N : L2.St → Hp → Prop, (∀ σ' H', N σ' H' → ∃ m', m' < m ∧ W (i + 1) m' σ' H') ∧ ∀ v H', (IteT K a).yld i H v H' → g v σ H' fun σ2 H2 => tb { D with nx := N, ct := N, bk := D.nx } σ2 H2) := by
  refine ⟨fun i m σ H => m = xs.length - i ∧ i ≤ xs.length ∧ Pv i σ H, ⟨xs.length, rfl, Nat.zero_le _, h0⟩, ?_⟩
  rintro i m σ H ⟨rfl, hi, p⟩
  have qx := hq i σ H p
  by_cases hlt : i < xs.length
  · have hx : xs[i]? = some xs[i] := List.getElem?_eq_getElem hlt
    refine .inr ⟨⟨xs, _, qx, hx⟩, Pv (i + 1), fun σ' H' p' => ⟨xs.length - (i + 1), by omega, rfl, hlt, p'⟩, fun v H' y => ?_⟩
    obtain ⟨T, x', rfl, hT, rfl, f1⟩ := y
    exact hs i x' T σ H (f1 xs qx) p hT
  · have e : i = xs.length := by omega
    subst e
    exact .inl ⟨⟨xs, qx, rfl⟩, hd σ H p⟩
end TpS
namespace TpS
open PySem PySem.Spec PyProof.Rows L2
section
variable {X : Cx} {pins : List (Addr × Obj)} {σ : L2.St} {H : Hp} {s : Shared} {a b : Addr} {r : Value} {d : V} {A : Around} {E : Value → Shared → Prop}
/-- setdefault, the key a tuple -/
theorem d_setdT {kvs : List (List Key × V)} {k : List Key} {Q : Value → Shared → Prop} (hu : A.units + 1 < cLine) (I : Inv X pins σ H s) (e : H a = some (.dT kvs)) (eb : H b = some (.tup (k.map kV))) (rd : RelV d r) (hl : kvs.length < sizeLine)
    (h1 : ∀ v, valV kvs k = some v → ∀ (w' : Value) (s' : Shared), Inv X pins σ H s' → RelV v w' → Q w' s') (h2 : valV kvs k = none → ∀ (w' : Value) (s' : Shared), Inv X pins σ (upd H a (.dT (putK kvs k d))) s' → RelV d w' → Q w' s') :
    wpAny (model X.prog X.w) A (call (.builtin "dict.setdefault") [.ref a, .ref b, r]) Q E s := by
  obtain ⟨z, hd, xs, rel, dd⟩ := dt_of I.hok e
  have hz : xs.length ≤ sizeLine := by rw [← Paired.length rel]; exact z
  have rv := rel.val k
  refine call_setdefault_heap (hsz := hz) (tupleKind_room_in1 hu) (key_of I.hok eb) hd dd (fun p hp => ?_) fun hn h' dd' hs => ?_
  · rw [hp] at rv
    cases q0 : valV kvs k with
    | none => rw [q0] at rv; exact (show False from rv).elim
    | some v0 => rw [q0] at rv; exact h1 v0 q0 _ _ (I.tok _) rv
  · rw [hn] at rv
    cases q0 : valV kvs k with
    | some v0 => rw [q0] at rv; exact (show False from rv).elim
    | none =>
      have hl2 : (putK kvs k d).length ≤ sizeLine := by have := length_putK kvs k d; omega
      obtain ⟨q, es, ep, hq, g2, g3, g4, _, g5⟩ := dd'
      refine h2 q0 _ _ (d_write (t' := _) I (by rw [e]; exact True.intro) hs ⟨q, hq⟩ ⟨hl2, hd, _, (rel.put k eb rd).keeps fun c ys ec => ?_, q, es, ep, hq, g2, g3, g4, g5⟩) rd
      rw [upd_ne (fun y => by rw [y, e] at ec; exact nomatch ec)]
      exact ec
end
def tSetdT (td ty tx : TE) : TE := fun σ H Q => td σ H fun x H1 => ∃ a, x = .ref a ∧ IsD H1 a ∧ ty σ H1 fun y H2 => tx σ H2 fun z H3 => ∃ (kvs : List (List Key × V)) (k : List Key) (b : Addr), H3 a = some (.dT kvs) ∧ y = .ref b ∧ H3 b = some (.tup (k.map kV)) ∧ kvs.length < sizeLine ∧
  (∀ v, valV kvs k = some v → Q v H3) ∧ (valV kvs k = none → Q z (upd H3 a (.dT (putK kvs k z))))
section
variable {X : Cx} {o e f : Expr} {td ty tx : TE} {apos cpos : Pos}
theorem pe_setdT (hu : X.A.units + 1 < cLine) (ho : PE X o td) (he : PE X e ty) (hf : PE X f tx) (m : M2 X o "setdefault" apos e f cpos) : PE X (.Call (.Attribute o "setdefault" apos) [e, f] [] cpos) (tSetdT td ty tx) := by
  refine ⟨fun pins s σ H Q I h => ?_⟩
  refine wpAny_Call_method m.base m.few m.line PySem.F.plainAttrs_dict PySem.F.slot_dict_setdefault PySem.F.type_dict_setdefault (thn (ho.run pins s σ H _ I h) fun u s1 ⟨x, H1, I1, rx, a, ex, d, q1⟩ => ?_)
  subst ex
  obtain rfl : u = Value.ref a := rx
  obtain ⟨t1, t2, _⟩ := isD_at I1 d
  refine ⟨t1, t2, ?_⟩
  rw [m.trees]
  refine Calls.callWith_builtin rfl (Calls.evalArgs_plain (Calls.spliced_cons (thn (he.run pins s1 σ H1 _ I1 q1) fun iv s2 ⟨y, H2, I2, ry, q2⟩ =>
    Calls.spliced_cons (thn (hf.run pins s2 σ H2 _ I2 q2) fun fv s3 ⟨z, H3, I3, rz, kvs, k, b, ea, ey, eb, hl, q3, q4⟩ => Calls.spliced_nil ?_))))
  subst ey
  obtain rfl : iv = Value.ref b := ry
  exact d_setdT hu I3 ea eb rz hl (fun v hv w' s4 I4 rw' => ⟨v, _, I4, rw', q3 v hv⟩) fun hn w' s4 I4 rw' => ⟨z, _, I4, rw', q4 hn⟩
end
end TpS
namespace Tp
open PySem L2 TpS
/-! tables -/
def lkT (t : List (List Int × Int)) (k : List Int) : Option Int := (t.find? fun x => decide (x.1 = k)).map (·.2)
def sdT (t : List (List Int × Int)) (k : List Int) (v : Int) : List (List Int × Int) := match lkT t k with
  | none => t ++ [(k, v)]
  | some _ => t
theorem inl_inj : ∀ {a b : List Int}, a.map (Sum.inl : Int → Key) = b.map Sum.inl → a = b
  | [], [], _ => rfl
  | [], _ :: _, h => nomatch h
  | _ :: _, [], h => nomatch h
  | x :: a, y :: b, h => by
    have h' : (Sum.inl x : Key) :: a.map Sum.inl = Sum.inl y :: b.map Sum.inl := h
    injection h' with h1 h2
    rw [Sum.inl.inj h1, inl_inj h2]
theorem val_tab (k : List Int) : ∀ (t : List (List Int × Int)), valV (tabV t) (k.map Sum.inl) = (lkT t k).map V.int
  | [] => rfl
  | (q, v) :: t => by
    have ih := val_tab k t
    unfold tabV at ih ⊢
    unfold lkT at ih ⊢
    rw [List.map_cons, List.find?_cons]
    by_cases e : q = k
    · subst e; rw [valV_pos rfl, decide_eq_true rfl]; rfl
    · rw [valV_neg (fun z => e (inl_inj z)), decide_eq_false e]; exact ih
theorem kV_inl (k : List Int) : (k.map (Sum.inl : Int → Key)).map kV = k.map V.int := by rw [List.map_map]; rfl
theorem tabD_inj : ∀ {t u : List (List Int × Int)}, (t.map fun x => (PyData.tuple (x.1.map .int), PyData.int x.2)) = (u.map fun x => (PyData.tuple (x.1.map .int), PyData.int x.2)) → t = u
  | [], [], _ => rfl
  | [], _ :: _, h => nomatch h
  | _ :: _, [], h => nomatch h
  | (a, x) :: t, (b, y) :: u, h => by
    have h' : (PyData.tuple (a.map .int), PyData.int x) :: (t.map fun x => (PyData.tuple (x.1.map .int), PyData.int x.2)) = (PyData.tuple (b.map .int), PyData.int y) :: (u.map fun x => (PyData.tuple (x.1.map .int), PyData.int x.2)) := h
    injection h' with h1 h2
    injection h1 with h3 h4
    have h5 : ∀ {a b : List Int}, a.map PyData.int = b.map PyData.int → a = b := fun {a b} h => by
      induction a generalizing b with
      | nil => cases b with
        | nil => rfl
        | cons _ _ => exact nomatch h
      | cons x a ih => cases b with
        | nil => exact nomatch h
        | cons y b =>
          have h' : PyData.int x :: a.map PyData.int = PyData.int y :: b.map PyData.int := h
          injection h' with h1 h2
          rw [PyData.int.inj h1, ih h2]
    rw [h5 (PyData.tuple.inj h3), PyData.int.inj h4, tabD_inj h2]
section
variable {X : Cx} {B : Bx} {W : WX} {P : Po} {r q : List Sl} {e e2 a b o tg : Expr} {es elts : List Expr} {rest body orelse : List Stmt} {d dx dy : D} {ds ds2 : List D} {pos pos' p : Pos} {k kk n : Nat} {x : Str} {t : List (List Int × Int)} {ks : List Int}
theorem enTab : EN X B (.Dict [] [] pos) r (fun p => .ot p []) :=
  ⟨_, pe_dnewT, fun H σ S Q g => fun p hp => g p _ H (Same.refl H) hp rfl ⟨rfl, upd_same⟩⟩
/-- a new tuple of ints, to be a key -/
def EKt (X : Cx) (B : Bx) (e : Expr) (r : List Sl) (ks : List Int) : Prop :=
  ∃ te, PE X e te ∧ ∀ H σ, SOk X.K B r H σ → ∀ Q : VK, (∀ p H', Same H H' → H' p = some (.tup (ks.map V.int)) → Q (.ref p) H') → te σ H Q
theorem ektTup (h : EA X B es r (ks.map .int)) (hl : ks.length ≤ 100000 := by first | decide | simp) : EKt X B (.Tuple es n pos) r ks := by
  obtain ⟨t, p, q⟩ := h
  refine ⟨_, pe_tup p, fun H σ S Q g => q H σ S _ fun vs H1 s1 y => ?_⟩
  have ev := rp_ints y
  subst ev
  exact ⟨by rw [List.length_map]; exact line_of hl, fun l hl => g l _ (s1.trans (same_new hl)) upd_same⟩
theorem tabV_len (t : List (List Int × Int)) : (tabV t).length = t.length := List.length_map _
/-- x.setdefault(k, e), x an owned table -/
theorem sv_setd (i : Nat) {l : Addr} {j : Int} {pc cp : Pos} (g : Go X W kk) (hr : r[i]? = some (.ot l t)) (hk : EKt X B a r ks) (he : EV X B b r (.int j)) (hl : t.length < 100000) (h : SV X B W rest (r.set i (.ot l (sdT t ks j))) P) (hN : X.N[i]? = some x := by rfl) (hv : Vis X.env.scope x := by first | exact Or.inl rfl | exact Or.inr (Or.inl rfl) | exact Or.inr (Or.inr rfl)) (hd : (x == ("__debug__" : Str)) = false := by decide)
    (hcd : (x == ("__classdict__" : Str)) = false := by decide) (hs : swapsWith (.Call (.Attribute (.Name x pos') "setdefault" pc) [a, b] [] cp) none pos.line X.env = pure false := by rfl) (m : M2 X (.Name x pos') "setdefault" pc a b cp := by exact ⟨by rfl, by rfl, by rfl, by rfl⟩) :
    SV X B W (.Expr (.Call (.Attribute (.Name x pos') "setdefault" pc) [a, b] [] cp) pos :: rest) r P := fun H σ E S kt => by
  obtain ⟨tk, pk, qk⟩ := hk
  obtain ⟨te, pe, qe⟩ := he
  obtain ⟨e1, y⟩ := S.sl i _ hr
  refine ⟨_, pss_cons (ps_expr (pe_setdT (hu_of g.hr) (pe_var hN hv hd hcd) pk pe m) hs) wS_ok, _, e1, l, rfl, .inr ⟨_, .inl y⟩, qk H σ S _ fun kp H1 s1 yk => qe H1 σ (S.mono s1) _ fun v H2 s2 u => ?_⟩
  cases u
  have y2 : H2 l = some (.dT (tabV t)) := (s1.trans s2).k y
  refine ⟨_, ks.map Sum.inl, kp, y2, rfl, by rw [kV_inl]; exact s2.k yk, Nat.lt_of_lt_of_le (by rw [tabV_len]; exact hl) (by decide : 100000 ≤ sizeLine), fun v hv => ?_, fun hn => ?_⟩
  · rw [val_tab] at hv
    have S2 := S.mono (s1.trans s2)
    have e : sdT t ks j = t := by
      unfold sdT
      cases q0 : lkT t ks with
      | none => rw [q0] at hv; cases hv
      | some z => rfl
    rw [e] at h
    rw [show r.set i (.ot l t) = r from set_self hr] at h
    exact h H2 σ E S2 kt
  · have hn2 := hn
    rw [val_tab] at hn
    have e : sdT t ks j = t ++ [(ks, j)] := by
      unfold sdT
      cases q0 : lkT t ks with
      | some z => rw [q0] at hn; cases hn
      | none => rfl
    refine h _ σ E ((S.mono (s1.trans s2)).turn hr rfl rfl ⟨e1, ?_⟩) kt
    rw [upd_same, putK_new _ hn2, e]
    unfold tabV
    rw [List.map_append]; rfl
/-- x[k], x a table -/
theorem evTix {v : Int} (g : Go X W kk) (ho : EV X B o r (tabD t)) (hk : EKt X B e r ks) (hv : lkT t ks = some v) (hs : NoSl e := by first | exact fun _ => rfl | exact fun _ _ => rfl) : EV X B (.Subscript o e pos) r (.int v) := by
  obtain ⟨to, po, qo⟩ := ho
  obtain ⟨tk, pk, qk⟩ := hk
  refine ⟨_, pe_dget (hu_of g.hr) po pk hs, fun H σ S Q q => qo H σ S _ fun u H1 s1 y => qk H1 σ (S.mono s1) _ fun kp H2 s2 yk => ?_⟩
  generalize ed : tabD t = dd at y
  cases y with
  | dct h1 h2 =>
    rename_i a us kvs
    unfold tabD at ed
    injection ed with ed
    cases kvs with
    | nil => cases ed
    | cons x kvs =>
      injection ed with e1 e2
      injection e1 with e3 e4
      obtain ⟨kk, dd⟩ := x
      cases kk <;> cases e3
  | @tab a t' h1 =>
    unfold tabD at ed
    injection ed with ed
    injection ed with e1 e2
    obtain rfl := tabD_inj e2
    have h3 : H2 a = some (.dT (tabV t)) := s2.k (hide_same.k h1)
    refine ⟨a, .int v, rfl, ?_, q _ H2 (s1.trans s2) (.int v)⟩
    have g0 := DGet.t (k := ks.map Sum.inl) h3 (by rw [kV_inl]; exact yk)
    rw [val_tab, hv] at g0
    exact g0
  | non => unfold tabD at ed; cases ed
  | bl => unfold tabD at ed; cases ed
  | int => unfold tabD at ed; cases ed
  | str => unfold tabD at ed; cases ed
  | lst => unfold tabD at ed; cases ed
  | tup => unfold tabD at ed; cases ed
/-- for i, x in enumerate(t) -/
theorem sv_forE (I : Nat → List Sl → Prop) (tq : D → List Sl → List Sl) {p1 pc tpos : Pos} (g : Go X W k) (he : EV X B e r (.tuple ds)) (hm : X.mg "enumerate" = none) (ht : ∀ B (i : Nat) d r', ds[i]? = some d → GT X B (.Tuple elts kk tpos) r' (.tuple [.int (i : Int), d]) (tq (.tuple [.int (i : Int), d]) r')) (h0 : I 0 r)
    (hs : ∀ H1 (i : Nat) d r', ds[i]? = some d → I i r' → SV X ⟨H1, B.ps, B.ts, B.gr⟩ W body (tq (.tuple [.int (i : Int), d]) r') (P.loop (LN I (i + 1)) fun q => SV X B W rest q P)) (hd : ∀ r', I ds.length r' → SV X B W rest r' P) (hg : Gl X "enumerate" := by rfl)
    (hst : starEach [e] X.env = [(false, eval e X.env)] := by rfl) (hfs : ∀ v, foldedSetIterable (.Call (.Name "enumerate" p1) [e] [] pc) X.env v = pure v := by intro _; rfl) : SV X B W (.For (.Tuple elts kk tpos) (.Call (.Name "enumerate" p1) [e] [] pc) body [] pos :: rest) r P := fun H σ E S kt => by
  obtain ⟨te, pe, ke⟩ := he
  refine ⟨_, pss_cons (ps_for g.po g.calm (pi_enumT hg hm (pa_cons pe pa_nil (by rw [hst]; rfl)) hst) (wG_ok (tg := .Tuple elts kk tpos)) (wS_ok (sts := body)) hfs) wS_ok, ?_⟩
  refine ke H σ S _ fun v H1 s1 y => ?_
  have S1 := S.mono s1
  cases y with
  | @tup a xs _ h1 h2 =>
    have z1 : SqT X.K (hide H1 (own r)) a xs := seqT (hide_sub fun p hp => List.mem_append_left _ hp : Same (hid B r H1) (hide H1 (own r))) h1
    have z2 : RpA X.K (hide (hide H1 (own r)) B.ps) xs ds := h2.mono fun b o eo => by
      have eo : hide H1 (own r ++ B.ps) b = some o := eo
      by_cases hb : b ∈ own r ++ B.ps
      · rw [hide_in hb] at eo; cases eo
      · rw [hide_out hb] at eo
        rw [hide_out fun w => hb (List.mem_append_right _ w), hide_out fun w => hb (List.mem_append_left _ w)]
        exact .inl eo
    refine ⟨a, xs, rfl, seqT hide_same h1, ?_⟩
    have hl : xs.length = ds.length := h2.len
    refine for_enumT (g := wG X (.Tuple elts kk tpos)) (tb := wS X body) (D := { E with nx := wS X rest E }) (K := X.K) (a := a) (xs := xs) (fun i σ' H' => ∃ r', SOk X.K (B.at r H1) r' H' σ' ∧ I i r') ⟨r, S1.rebase, h0⟩ (fun i σ' H' ⟨r', S', hI⟩ => seqT S'.ex (H := hide H1 (own r)) z1) (fun i x T σ' H' hi ⟨r', S', hI⟩ hT => ?_) (fun σ' H' ⟨r', S', hI⟩ => hd r' (hl ▸ hI) H' σ' E (S1.back S') kt)
    obtain ⟨d, hd', rd⟩ := z2.getV hi
    obtain ⟨gx, px, kx⟩ := ht (B.at r H1) i d r' hd'
    have rd' : Rp X.K (hid (B.at r H1) r' H') x d := rd.mono fun b o eo => by
      show Ext1 o (hide H' (own r' ++ B.ps) b)
      by_cases hb : b ∈ B.ps
      · rw [hide_in hb] at eo; cases eo
      · rw [hide_out hb] at eo
        have e2 : Ext1 o (H' b) := S'.ex b o eo
        rw [hide_out fun w => (List.mem_append.mp w).elim (fun w' => by
          have := S'.new b w'
          rw [show (B.at r H1).H0 b = some o from eo] at this
          cases this) hb]
        exact e2
    have sT : Same H' (upd H' T (.tup [.int (i : Nat), x])) := same_new hT
    have S2 := S'.mono sT
    refine ⟨gx, px, kx _ σ' _ S2 (.tup (SqT.of (hide_new hT S'.dom)) (.cons (.int _) (.cons (rd'.mono (hide_mono sT)) .nil))) _ fun σ2 S3 => hs (hide H1 (own r)) i d r' hd' hI _ σ2 _ S3 (Kt.loop S1 kt _ fun q H3 σ3 S3 hI3 => ⟨q, S3, hI3⟩)⟩
/-- for x, y in zip(xs, ys), lists of one length -/
theorem sv_forZ (I : Nat → List Sl → Prop) (tq : D → List Sl → List Sl) {p1 pc tpos : Pos} (g : Go X W k) (he : EA X B [e, e2] r [.list ds, .list ds2]) (hlen : ds.length = ds2.length) (hm : X.mg "zip" = none) (ht : ∀ B (i : Nat) d d2 r', ds[i]? = some d → ds2[i]? = some d2 → GT X B (.Tuple elts kk tpos) r' (.tuple [d, d2]) (tq (.tuple [d, d2]) r')) (h0 : I 0 r)
    (hs : ∀ H1 (i : Nat) d d2 r', ds[i]? = some d → ds2[i]? = some d2 → I i r' → SV X ⟨H1, B.ps, B.ts, B.gr⟩ W body (tq (.tuple [d, d2]) r') (P.loop (LN I (i + 1)) fun q => SV X B W rest q P)) (hd : ∀ r', I ds.length r' → SV X B W rest r' P) (hg : Gl X "zip" := by rfl)
    (hst : starEach [e, e2] X.env = (false, eval e X.env) :: starEach [e2] X.env := by rfl) (hpl : (backTo pc (starEach [e2] X.env)).any (·.1) = false := by rfl) (hfs : ∀ v, foldedSetIterable (.Call (.Name "zip" p1) [e, e2] [] pc) X.env v = pure v := by intro _; rfl) : SV X B W (.For (.Tuple elts kk tpos) (.Call (.Name "zip" p1) [e, e2] [] pc) body [] pos :: rest) r P := fun H σ E S kt => by
  obtain ⟨te, pe, ke⟩ := he
  refine ⟨_, pss_cons (ps_for g.po g.calm (RZ.pi_zipA hg hm pe hst hpl) (wG_ok (tg := .Tuple elts kk tpos)) (wS_ok (sts := body)) hfs) wS_ok, ?_⟩
  refine ke H σ S _ fun vs H1 s1 y => ?_
  have S1 := S.mono s1
  have up : ∀ {c : Addr} {zs : List V} {es : List D}, SqL X.K (hid B r H1) c zs → RpA X.K (hid B r H1) zs es → SqL X.K (hide H1 (own r)) c zs ∧ RpA X.K (hide (hide H1 (own r)) B.ps) zs es := fun {c zs es} h1 h2 => by
    refine ⟨(hide_sub fun p hp => List.mem_append_left _ hp : Same (hid B r H1) (hide H1 (own r))).seq h1, h2.mono fun b o eo => ?_⟩
    have eo : hide H1 (own r ++ B.ps) b = some o := eo
    by_cases hb : b ∈ own r ++ B.ps
    · rw [hide_in hb] at eo; cases eo
    · rw [hide_out hb] at eo
      rw [hide_out fun w => hb (List.mem_append_right _ w), hide_out fun w => hb (List.mem_append_left _ w)]
      exact .inl eo
  cases y with
  | cons y1 yr =>
    cases yr with
    | cons y2 yn =>
      cases yn
      cases y1 with
      | @lst a xs _ h1 h2 =>
        cases y2 with
        | @lst b ys _ h3 h4 =>
          obtain ⟨z1, z2⟩ := up h1 h2
          obtain ⟨z3, z4⟩ := up h3 h4
          have hl : xs.length = ds.length := h2.len
          have hl2 : ys.length = ds2.length := h4.len
          refine ⟨a, b, xs, ys, rfl, .inl ⟨hide_same.seq h1, hide_same.seq h3, ?_⟩⟩
          refine RZ.for_zipL (g := wG X (.Tuple elts kk tpos)) (tb := wS X body) (D := { E with nx := wS X rest E }) (K := X.K) (a := a) (b := b) (xs := xs) (ys := ys) (by rw [hl, hl2]; exact hlen) (fun i σ' H' => ∃ r', SOk X.K (B.at r H1) r' H' σ' ∧ I i r') ⟨r, S1.rebase, h0⟩ (fun i σ' H' ⟨r', S', hI⟩ => ⟨S'.ex.seq (H := hide H1 (own r)) z1, S'.ex.seq (H := hide H1 (own r)) z3⟩) (fun i x y T σ' H' hi hi2 ⟨r', S', hI⟩ hT => ?_) (fun σ' H' ⟨r', S', hI⟩ => hd r' (hl ▸ hI) H' σ' E (S1.back S') kt)
          obtain ⟨d, hd', rd⟩ := z2.getV hi
          obtain ⟨d2, hd2', rd2⟩ := z4.getV hi2
          obtain ⟨gx, px, kx⟩ := ht (B.at r H1) i d d2 r' hd' hd2'
          have see : Same (hide (hide H1 (own r)) B.ps) (hid (B.at r H1) r' H') := fun b o eo => by
            show Ext1 o (hide H' (own r' ++ B.ps) b)
            by_cases hb : b ∈ B.ps
            · rw [hide_in hb] at eo; cases eo
            · rw [hide_out hb] at eo
              have e2 : Ext1 o (H' b) := S'.ex b o eo
              rw [hide_out fun w => (List.mem_append.mp w).elim (fun w' => by
                have := S'.new b w'
                rw [show (B.at r H1).H0 b = some o from eo] at this
                cases this) hb]
              exact e2
          have sT : Same H' (upd H' T (.tup [x, y])) := same_new hT
          have S2 := S'.mono sT
          exact ⟨gx, px, kx _ σ' _ S2 (.tup (SqT.of (hide_new hT S'.dom)) (.cons ((rd.mono see).mono (hide_mono sT)) (.cons ((rd2.mono see).mono (hide_mono sT)) .nil))) _ fun σ2 S3 => hs (hide H1 (own r)) i d d2 r' hd' hd2' hI _ σ2 _ S3 (Kt.loop S1 kt _ fun q H3 σ3 S3 hI3 => ⟨q, S3, hI3⟩)⟩
end
end Tp

namespace Tp
open PySem L2
/-! ### objects that are read, objects that turn: one promise for both -/
/-- arguments, ghosts that are only read, ghosts that may turn; what is wanted of the result and of the ghosts behind it; of an exception -/
abbrev CtM := List It → List (Addr × Nd) → List (Addr × Nd) → (Rs → List (Addr × Nd) → Prop) → (Addr → List (Addr × Nd) → Prop) → Prop
def spM (T : List Addr) (K : PySem.W.Frag) (c : CtM) : Sp := fun vs H Q E => ∃ ps gr gl its Po Ex, (∀ t ∈ T, TabG H t) ∧ (∀ p ∈ ps, H p ≠ none) ∧ (gown gl).Nodup ∧ (∀ p ∈ gown gl, p ∉ ps) ∧ (∀ p ∈ gown gr, p ∈ ps) ∧ GOk K (hide H (gown gl ++ ps)) H gl ∧ GOk K (hide H (gown gl ++ ps)) H gr ∧ ItA K (hide H (gown gl ++ ps)) vs its ∧ c its gr gl Po Ex ∧
  (∀ s v gl' H', GNew gl gl' H H' → GOk K (hide H' (gown gl' ++ ps)) H' gl' → RsO K (hide H' (gown gl' ++ ps)) v s → Po s gl' → Q v H') ∧ ∀ C gl' H', GNew gl gl' H H' → GOk K (hide H' (gown gl' ++ ps)) H' gl' → Ex C gl' → E (.ref C) none H'
theorem fn_m {P : Program} {w : World} {T : List Addr} {K : PySem.W.Frag} {mg : Str → Option Value} {base : Heap} {x qual : Str} {st : Stmt} {f : Addr} {fd : FuncData} {N ps : List Str} {k : Nat} {c : CtM} (iG : Nat) (F : Fun K x qual st f fd) (S : FnScope N ps (defScope st))
    (hl : ∀ its gr gl Q E, c its gr gl Q E → its.length = ps.length) (hN : ps.length + 1 ≤ N.length)
    (body : ∀ (cdv : Value) (A : Around) (outer : List Env) (s : Shared) (H H0 : Hp) (E : XK) (qs : List Addr) (its : List It) (gr gl : List (Addr × Nd)) (Q : Rs → List (Addr × Nd) → Prop) (Ex : Addr → List (Addr × Nd) → Prop), Go (cxOf (L2.CX P w) P w K mg base N qual (defScope st) f cdv A outer s H E) (fun cls d _ H => E cls d H) k → c its gr gl Q Ex →
      SV (cxOf (L2.CX P w) P w K mg base N qual (defScope st) f cdv A outer s H E) ⟨H0, qs, T, gr⟩ (fun cls d _ H => E cls d H) (defBody st) (iniO N its gl) { nx := fun r => ∃ gl', r[iG]? = some (.gs gl') ∧ Q (.da .none) gl', rt := fun s r => isO s = true ∧ ∃ gl', r[iG]? = some (.gs gl') ∧ Q s gl', ex := fun C r => ∃ gl', r[iG]? = some (.gs gl') ∧ Ex C gl' }) :
    FnOk P w K mg base (L2.CX P w) (k + 1) f fd ps (spM T K c) := by
  refine F.okX S (fun vs H Q E h => ?_) (fun cdv A outer s H vs Q E hr h => ?_)
  · obtain ⟨qs, gr, gl, its, Po, Ex, _, _, _, _, _, _, _, A, hc, _⟩ := h
    rw [A.len]
    exact hl _ _ _ _ _ hc
  · obtain ⟨qs, gr, gl, its, Po, Ex, tb, hp, nd, ap, gp, G, G2, A', hc, k1, k2⟩ := h
    have Go' : Go (cxOf (L2.CX P w) P w K mg base N qual (defScope st) f cdv A outer s H E) (fun cls d _ H => E cls d H) k :=
      ⟨hr, rfl, passes_of rfl, takes_of rfl rfl rfl rfl, S.nd⟩
    have new : ∀ {r : List Sl} {H' : Hp} {σ' : St} {gl' : List (Addr × Nd)}, SOk K ⟨hide H (gown gl), qs, T, gr⟩ r H' σ' → r[iG]? = some (.gs gl') → GNew gl gl' H H' ∧ GOk K (hide H' (gown gl' ++ qs)) H' gl' := fun {r H' σ' gl'} S' hG => by
      obtain ⟨G', nd'⟩ := S'.ghosts hG
      refine ⟨⟨fun a o e ha => S'.ex a o (by show hide H (gown gl) a = some o; rw [hide_out ha]; exact e), nd', fun p hp' => ?_⟩, GOk.mono (hide_sub fun p hp' => (List.mem_append.mp hp').elim (fun z => List.mem_append_left _ (mem_own hG z)) fun z => List.mem_append_right _ z) (fun _ _ => rfl) G'⟩
      have h0 := S'.new p (mem_own hG hp')
      by_cases hz : p ∈ gown gl
      · exact .inl hz
      · refine .inr ?_
        have h0 : hide H (gown gl) p = none := h0
        rw [hide_out hz] at h0
        exact h0
    have S0 := sok_iniO (T := T) (N := N) tb hp nd ap G A' (by rw [hl _ _ _ _ _ hc]; exact hN)
    have S1 : SOk K ⟨hide H (gown gl), qs, T, gr⟩ (iniO N its gl) H (L2.start N vs) := ⟨S0.ex, S0.old, S0.new, S0.nd, S0.len, S0.sl, S0.tb, by show GOk K (hide H (own (iniO N its gl) ++ qs)) H gr; rw [own_iniO]; exact G2, gp⟩
    refine ⟨_, wS_ok, body cdv A outer s H (hide H (gown gl)) E qs its gr gl Po Ex Go' hc H _ _ S1 ⟨fun r σ' H' S' hq => ?_, fun s v r σ' H' S' y hq => ?_, fun _ _ _ _ z => z.elim, fun _ _ _ _ z => z.elim, fun C r σ' H' S' hx => ?_⟩⟩
    · obtain ⟨gl', hG, hq⟩ := hq
      obtain ⟨n1, n2⟩ := new S' hG
      exact k1 (.da .none) .non gl' H' n1 n2 (show Rp K _ V.non .none from .non) hq
    · obtain ⟨hi, gl', hG, hq⟩ := hq
      obtain ⟨n1, n2⟩ := new S' hG
      refine k1 s v gl' H' n1 n2 ?_ hq
      cases s with
      | da d => exact Rp.mono (hide_sub fun p hp' => (List.mem_append.mp hp').elim (fun z => List.mem_append_left _ (mem_own hG z)) fun z => List.mem_append_right _ z) y
      | rf a => exact y
      | nl _ => cases hi
      | nd _ => cases hi
    · obtain ⟨gl', hG, hq⟩ := hx
      obtain ⟨n1, n2⟩ := new S' hG
      exact k2 C gl' H' n1 n2 hq
/-! ### where a ghost lies -/
/-- an owned list, read as a ghost -/
def InO (r : List Sl) (x : Addr × Nd) : Prop := ∃ (i : Nat) (p : Addr) (ds : List D), r[i]? = some (.ol p ds) ∧ x = (p, Nd.ls (ds.map It.da))
def InG (B : Bx) (r : List Sl) (x : Addr × Nd) : Prop := x ∈ B.gr ∨ (∃ (i : Nat) (gl : List (Addr × Nd)), r[i]? = some (.gs gl) ∧ x ∈ gl) ∨ InO r x
section
variable {K : PySem.W.Frag} {B : Bx} {r : List Sl} {gl g1 g2 gr : List (Addr × Nd)} {x : Addr × Nd} {H H' : Hp} {σ : St}
theorem inG_s (i j : Nat) (h : r[i]? = some (.gs gl)) (hj : gl[j]? = some x) : InG B r x := .inr (.inl ⟨i, gl, h, List.mem_of_getElem? hj⟩)
theorem inG_o (i : Nat) {p : Addr} {ds : List D} (h : r[i]? = some (.ol p ds)) : InG B r (p, Nd.ls (ds.map It.da)) := .inr (.inr ⟨i, p, ds, h, rfl⟩)
theorem inO_o (i : Nat) {p : Addr} {ds : List D} (h : r[i]? = some (.ol p ds)) : InO r (p, Nd.ls (ds.map It.da)) := ⟨i, p, ds, h, rfl⟩
theorem inG_g (j : Nat) (hj : B.gr[j]? = some x) : InG B r x := .inl (List.mem_of_getElem? hj)
theorem alG_n : ∀ x ∈ ([] : List (Addr × Nd)), InG B r x := fun _ h => nomatch h
theorem alG_c (h : InG B r x) (hr : ∀ y ∈ gr, InG B r y) : ∀ y ∈ x :: gr, InG B r y := fun y hy => (List.mem_cons.mp hy).elim (fun z => z ▸ h) (hr y)
theorem alG_a (h : ∀ y ∈ g1, InG B r y) (hr : ∀ y ∈ g2, InG B r y) : ∀ y ∈ g1 ++ g2, InG B r y := fun y hy => (List.mem_append.mp hy).elim (h y) (hr y)
theorem InO.gset {iG : Nat} {gl' : List (Addr × Nd)} (hG : r[iG]? = some (.gs gl)) (h : InO r x) : InO (r.set iG (.gs gl')) x := by
  obtain ⟨i, p, ds, hi, rfl⟩ := h
  have ne : iG ≠ i := fun z => by subst z; rw [hi] at hG; cases hG
  exact ⟨i, p, ds, by rw [List.getElem?_set_ne ne]; exact hi, rfl⟩
theorem gown_in : ∀ {gl : List (Addr × Nd)} {p : Addr}, p ∈ gown gl → ∃ x ∈ gl, p ∈ own1 x.1 x.2
  | [], _, h => nomatch h
  | (a, n) :: gl, p, h => by
    rw [gown_cons] at h
    rcases List.mem_append.mp h with h | h
    · exact ⟨_, List.mem_cons_self, h⟩
    · obtain ⟨x, h1, h2⟩ := gown_in h
      exact ⟨x, List.mem_cons_of_mem _ h1, h2⟩
theorem gown_of : ∀ {gl : List (Addr × Nd)} {x : Addr × Nd} {p : Addr}, x ∈ gl → p ∈ own1 x.1 x.2 → p ∈ gown gl
  | (a, n) :: gl, x, p, h, hp => by
    rw [gown_cons]
    rcases List.mem_cons.mp h with e | h
    · subst e; exact List.mem_append_left _ hp
    · exact List.mem_append_right _ (gown_of h hp)
theorem GOk.memb {Hh : Hp} : ∀ {gl : List (Addr × Nd)} {x : Addr × Nd}, GOk K Hh H gl → x ∈ gl → NdOk K Hh H x.1 x.2
  | (a, n) :: gl, x, g, h => by
    rcases List.mem_cons.mp h with e | h
    · subst e; exact g.1
    · exact GOk.memb g.2 h
theorem GOk.all {Hh : Hp} : ∀ {gl : List (Addr × Nd)}, (∀ x ∈ gl, NdOk K Hh H x.1 x.2) → GOk K Hh H gl
  | [], _ => trivial
  | (a, n) :: gl, h => ⟨h _ List.mem_cons_self, GOk.all fun x hx => h x (List.mem_cons_of_mem _ hx)⟩
theorem InG.ok (S : SOk K B r H σ) (h : InG B r x) : NdOk K (hid B r H) H x.1 x.2 := by
  rcases h with h | ⟨i, gl, hi, h⟩ | ⟨i, p, ds, hi, rfl⟩
  · exact S.gr.memb h
  · exact GOk.memb (S.sl i _ hi) h
  · obtain ⟨e1, vs, e2, ra⟩ := S.sl i _ hi
    exact ⟨vs, e2, RpA.its ra⟩
theorem InG.own (S : SOk K B r H σ) (h : InG B r x) : ∀ p ∈ own1 x.1 x.2, p ∈ own r ++ B.ps := fun p hp => by
  rcases h with h | ⟨i, gl, hi, h⟩ | ⟨i, q, ds, hi, rfl⟩
  · exact List.mem_append_right _ (S.gp p (gown_of h hp))
  · exact List.mem_append_left _ (mem_own hi (gown_of h hp))
  · exact List.mem_append_left _ (mem_own hi hp)
theorem perm_n : gl.Perm ([] ++ gl) := .refl _
theorem erase_perm {α : Type} {x : α} : ∀ {l : List α} {j : Nat}, l[j]? = some x → l.Perm (x :: l.eraseIdx j)
  | [], _, h => by simp at h
  | y :: l, 0, h => by simp at h; subst h; exact .refl _
  | y :: l, j + 1, h => ((erase_perm (l := l) (j := j) (by simpa using h)).cons y).trans (.swap x y _)
theorem perm_c (j : Nat) (h : gl[j]? = some x) (hp : (gl.eraseIdx j).Perm (g1 ++ g2)) : gl.Perm ((x :: g1) ++ g2) := (erase_perm h).trans (hp.cons x)
end
section
variable {X : Cx} {B : Bx} {W : WX} {P : Po} {r q : List Sl} {e a b o tg : Expr} {es : List Expr} {kws : List Keyword} {rest body orelse : List Stmt} {d : D} {ds : List D} {pos pos' p1 apos : Pos} {k kk n : Nat} {x f m : Str} {ks : List Str} {gl g1 g2 gr : List (Addr × Nd)} {p C dx l : Addr} {fs : List (Str × It)} {t : It} {its iks : List It} {c : CtM} {Po : Rs → Prop} {Po2 Po3 : Rs → List (Addr × Nd) → Prop} {Ex : Addr → Prop} {Ex2 Ex3 : Addr → List (Addr × Nd) → Prop}
/-! reading -/
theorem erO (i : Nat) {ds : List D} (h : r[i]? = some (.ol p ds)) (hN : X.N[i]? = some x := by rfl) (hv : Vis X.env.scope x := by first | exact Or.inl rfl | exact Or.inr (Or.inl rfl) | exact Or.inr (Or.inr rfl)) (hd : (x == ("__debug__" : Str)) = false := by decide) (hcd : (x == ("__classdict__" : Str)) = false := by decide) : ER X B (.Name x pos) r p :=
  ⟨_, pe_var hN hv hd hcd, fun H σ S Q q => ⟨_, (S.sl i _ h).1, q H (Same.refl H)⟩⟩
theorem evFldI (he : ER X B e r p) (hG : InG B r (p, .ob C dx fs)) (hf : FdAt X.K C fs f (.da d)) (hb : attributeBase e f X.env (eval e X.env) = eval e X.env := by rfl) : EV X B (.Attribute e f pos) r d := by
  obtain ⟨te, pp, kk⟩ := he
  refine ⟨_, pe_fld pp hb, fun H σ S Q q => kk H σ S _ fun H1 s1 => ?_⟩
  obtain ⟨vs, e1, e2, y⟩ := hG.ok (S.mono s1)
  obtain ⟨v, l1, rv⟩ := y.lookup hf.look
  exact ⟨p, C, dx, vs, v, rfl, e1, hf.cl, hf.na, l1, q v H1 s1 rv⟩
theorem erFldI (he : ER X B e r p) (hG : InG B r (p, .ob C dx fs)) (hf : FdAt X.K C fs f (.rf l)) (hb : attributeBase e f X.env (eval e X.env) = eval e X.env := by rfl) : ER X B (.Attribute e f pos) r l := by
  obtain ⟨te, pp, kk⟩ := he
  refine ⟨_, pe_fld pp hb, fun H σ S Q q => kk H σ S _ fun H1 s1 => ?_⟩
  obtain ⟨vs, e1, e2, y⟩ := hG.ok (S.mono s1)
  obtain ⟨v, l1, rv⟩ := y.lookup hf.look
  cases rv
  exact ⟨p, C, dx, vs, _, rfl, e1, hf.cl, hf.na, l1, q H1 s1⟩
theorem ER.listI (he : ER X B e r l) (hG : InG B r (l, Nd.ls (ds.map It.da))) : ES X B e r false ds := by
  obtain ⟨te, pp, kk⟩ := he
  refine ⟨te, pp, fun H σ S Q q => kk H σ S _ fun H1 s1 => ?_⟩
  obtain ⟨vs, e1, y⟩ := hG.ok (S.mono s1)
  exact q l vs H1 s1 (SqL.of e1) y.das
/-! arguments -/
def EAi (X : Cx) (B : Bx) (es : List Expr) (r : List Sl) (its : List It) : Prop :=
  ∃ ta, PA X es ta ∧ ∀ H σ, SOk X.K B r H σ → ∀ Q : List V → Hp → Prop, (∀ vs H', Same H H' → ItA X.K (hid B r H') vs its → Q vs H') → ta σ H Q
theorem eaiN : EAi X B [] r [] := ⟨_, pa_nil, fun H σ _ Q q => q [] H (Same.refl _) .nil⟩
theorem eaiD (h : EV X B e r d) (hr : EAi X B es r its) (hst : NSt X e := by exact fun _ => rfl) : EAi X B (e :: es) r (.da d :: its) := by
  obtain ⟨t, p, q⟩ := h
  obtain ⟨t', p', q'⟩ := hr
  exact ⟨_, pa_cons p p' (hst _), fun H σ S Q g => q H σ S _ fun v H1 s1 y => q' H1 σ (S.mono s1) _ fun vs H2 s2 z => g _ H2 (s1.trans s2) (.cons (Rp.mono (hide_mono s2) y) z)⟩
theorem eaiR (h : ER X B e r p) (hr : EAi X B es r its) (hst : NSt X e := by exact fun _ => rfl) : EAi X B (e :: es) r (.rf p :: its) := by
  obtain ⟨t, pp, q⟩ := h
  obtain ⟨t', p', q'⟩ := hr
  exact ⟨_, pa_cons pp p' (hst _), fun H σ S Q g => q H σ S _ fun H1 s1 => q' H1 σ (S.mono s1) _ fun vs H2 s2 z => g _ H2 (s1.trans s2) (.cons rfl z)⟩
def EKi (X : Cx) (B : Bx) (kws : List Keyword) (r : List Sl) (its : List It) : Prop :=
  ∃ ta, PK X kws ta ∧ ∀ H σ, SOk X.K B r H σ → ∀ Q : List V → Hp → Prop, (∀ vs H', Same H H' → ItA X.K (hid B r H') vs its → Q vs H') → ta σ H Q
theorem ekiN : EKi X B [] r [] := ⟨_, pk_nil, fun H σ _ Q q => q [] H (Same.refl _) .nil⟩
theorem ekiD {nm : Option Str} {kpos : Pos} (h : EV X B e r d) (hr : EKi X B kws r its) : EKi X B (⟨nm, e, kpos⟩ :: kws) r (.da d :: its) := by
  obtain ⟨t, p, q⟩ := h
  obtain ⟨t', p', q'⟩ := hr
  exact ⟨_, pk_cons p p', fun H σ S Q g => q H σ S _ fun v H1 s1 y => q' H1 σ (S.mono s1) _ fun vs H2 s2 z => g _ H2 (s1.trans s2) (.cons (Rp.mono (hide_mono s2) y) z)⟩
theorem ekiR {nm : Option Str} {kpos : Pos} (h : ER X B e r p) (hr : EKi X B kws r its) : EKi X B (⟨nm, e, kpos⟩ :: kws) r (.rf p :: its) := by
  obtain ⟨t, pp, q⟩ := h
  obtain ⟨t', p', q'⟩ := hr
  exact ⟨_, pk_cons pp p', fun H σ S Q g => q H σ S _ fun H1 s1 => q' H1 σ (S.mono s1) _ fun vs H2 s2 z => g _ H2 (s1.trans s2) (.cons rfl z)⟩
/-! what a callee may ask -/
theorem spM_read {H : Hp} {σ : St} {vs : List V} {Q : VK} {E : XK} (S : SOk X.K B r H σ) (hr : ∀ x ∈ gr, InG B r x) (A : ItA X.K (hid B r H) vs its) (hc : c its gr [] Po2 Ex2)
    (k1 : ∀ s v g' H', Same H H' → RsO X.K (hid B r H') v s → Po2 s g' → Q v H') (k2 : ∀ C g' H', Same H H' → Ex2 C g' → E (.ref C) none H') : spM B.ts X.K c vs H Q E := by
  refine ⟨own r ++ B.ps, gr, [], its, Po2, Ex2, S.tb, S.dom, List.nodup_nil, (fun _ h => nomatch h), fun p hp => ?_, trivial, GOk.all fun x hx => (hr x hx).ok S, A, hc, fun s v g' H' nw _ ro ho => ?_, fun C g' H' nw _ hx => k2 C g' H' (fun a o e => nw.k a o e (List.not_mem_nil)) hx⟩
  · obtain ⟨x, h1, h2⟩ := gown_in hp
    exact (hr x h1).own S p h2
  · refine k1 s v g' H' (fun a o e => nw.k a o e (List.not_mem_nil)) ?_ ho
    cases s with
    | da d => exact Rp.mono (hide_sub fun q hq => List.mem_append_right _ hq) ro
    | rf a => exact ro
    | nl _ => exact ro
    | nd _ => exact ro
theorem spM_own {iG : Nat} {H : Hp} {σ : St} {vs : List V} {Q : VK} {E : XK} (S : SOk X.K B r H σ) (hG : r[iG]? = some (.gs gl)) (hp : gl.Perm (g1 ++ g2)) (hr : ∀ x ∈ gr, x ∈ g2 ∨ x ∈ B.gr ∨ InO r x) (A : ItA X.K (hid B r H) vs its) (hc : c its gr g1 Po2 Ex2)
    (k1 : ∀ s v g' H', SOk X.K B (r.set iG (.gs (g' ++ g2))) H' σ → RsO X.K (hid B (r.set iG (.gs (g' ++ g2))) H') v s → Po2 s g' → Q v H') (k2 : ∀ C g' H', SOk X.K B (r.set iG (.gs (g' ++ g2))) H' σ → Ex2 C g' → E (.ref C) none H') : spM B.ts X.K c vs H Q E := by
  obtain ⟨G, nd⟩ := S.ghosts hG
  have hi := (List.getElem?_eq_some_iff.mp hG).1
  have own_e : ∀ q, q ∈ gown gl ↔ q ∈ gown g1 ∨ q ∈ gown g2 := fun q => by rw [(gown_perm hp).mem_iff, gown_app, List.mem_append]
  have Gp : GOk X.K (hid B r H) H (g1 ++ g2) := GOk.perm hp G
  have nd2 : (gown g1 ++ gown g2).Nodup := by rw [← gown_app]; exact (gown_perm hp).nodup_iff.mp nd
  obtain ⟨n1, n2, n3⟩ := List.nodup_append.mp nd2
  have hr0 : r.set iG (.gs gl) = r := set_self hG
  -- what the callee must leave alone
  have hrg : ∀ q, q ∈ own r → q ∈ gown gl ∨ q ∈ own (r.set iG .no) := fun q hq => own_set2 (s := .gs gl) (r := r) (i := iG) (by rw [hr0]; exact hq)
  have ap2 : ∀ q ∈ gown gl, q ∉ own (r.set iG .no) := fun q hq => by
    have key : ∀ {g : List Sl} {i : Nat}, g[i]? = some (.gs gl) → (own g).Nodup → q ∉ own (g.set i .no) := by
      intro g
      induction g with
      | nil => intro i h; simp at h
      | cons a g ih =>
        intro i h nd
        have nd : (ownOf a ++ own g).Nodup := nd
        obtain ⟨n1, n2, n3⟩ := List.nodup_append.mp nd
        cases i with
        | zero =>
          simp at h; subst h
          intro w
          have w : q ∈ own g := w
          exact n3 q hq q w rfl
        | succ i =>
          have hi : g[i]? = some (.gs gl) := by simpa using h
          intro w
          rcases List.mem_append.mp w with w | w
          · exact n3 q w q (mem_own hi hq) rfl
          · exact ih hi n2 w
    exact key hG S.nd
  have old : ∀ q ∈ gown gl, q ∉ B.ps := fun q hq z => S.old q z (S.new q (mem_own hG hq))
  have memb : ∀ {x : Addr × Nd}, x ∈ gl ↔ x ∈ g1 ∨ x ∈ g2 := by intro x; rw [hp.mem_iff, List.mem_append]
  have inr' : ∀ x ∈ gr, InG B r x := fun x hx => (hr x hx).elim (fun z => .inr (.inl ⟨iG, gl, hG, memb.mpr (.inr z)⟩)) fun z => z.elim .inl fun z => .inr (.inr z)
  have back : ∀ {g' : List (Addr × Nd)} {H' : Hp}, GNew g1 g' H H' → GOk X.K (hide H' (gown g' ++ (gown g2 ++ (own (r.set iG .no) ++ B.ps)))) H' g' → SOk X.K B (r.set iG (.gs (g' ++ g2))) H' σ ∧ (∀ q ∈ own (r.set iG (.gs (g' ++ g2))) ++ B.ps, q ∈ gown g' ++ (gown g2 ++ (own (r.set iG .no) ++ B.ps))) := fun {g' H'} nw g => by
    have sub : ∀ q ∈ own (r.set iG (.gs (g' ++ g2))) ++ B.ps, q ∈ gown g' ++ (gown g2 ++ (own (r.set iG .no) ++ B.ps)) := fun q hq => by
      rcases List.mem_append.mp hq with z | z
      · rcases own_set2 z with y | y
        · have y : q ∈ gown (g' ++ g2) := y
          rw [gown_app] at y
          rcases List.mem_append.mp y with y | y
          · exact List.mem_append_left _ y
          · exact List.mem_append_right _ (List.mem_append_left _ y)
        · exact List.mem_append_right _ (List.mem_append_right _ (List.mem_append_left _ y))
      · exact List.mem_append_right _ (List.mem_append_right _ (List.mem_append_right _ z))
    refine ⟨S.gset hG (fun a o ea ha => nw.k a o ea fun z => ha ((own_e a).mpr (.inl z))) ?_ ?_ fun hh => ?_, sub⟩
    · rw [gown_app]
      refine List.nodup_append.mpr ⟨nw.nd, n2, fun x hx y hy e => ?_⟩
      subst e
      rcases nw.nw x hx with z | z
      · exact n3 x z x hy rfl
      · obtain ⟨u, eu, _⟩ := GOk.there G ((own_e x).mpr (.inr hy))
        rw [z] at eu; cases eu
    · intro q hq
      rw [gown_app] at hq
      rcases List.mem_append.mp hq with z | z
      · rcases nw.nw q z with y | y
        · exact .inl ((own_e q).mpr (.inl y))
        · exact .inr y
      · exact .inl ((own_e q).mpr (.inr z))
    · refine GOk.app (GOk.mono (hide_sub sub) (fun _ _ => rfl) g) (GOk.mono hh (fun q hq => ?_) (GOk.all fun x hx => Gp.memb (List.mem_append_right _ hx)))
      obtain ⟨u, eu, nt⟩ := GOk.there G ((own_e q).mpr (.inr hq))
      rw [eu]
      exact (nw.k q u eu fun z => n3 q z q hq rfl).nt nt
  have hsub : ∀ q ∈ gown g1 ++ (gown g2 ++ (own (r.set iG .no) ++ B.ps)), q ∈ own r ++ B.ps := fun q hq => by
    rcases List.mem_append.mp hq with z | z
    · exact List.mem_append_left _ (mem_own hG ((own_e q).mpr (.inl z)))
    · rcases List.mem_append.mp z with z | z
      · exact List.mem_append_left _ (mem_own hG ((own_e q).mpr (.inr z)))
      · rcases List.mem_append.mp z with z | z
        · exact List.mem_append_left _ (by have := own_no_sub (s := .gs gl) z; rw [hr0] at this; exact this)
        · exact List.mem_append_right _ z
  refine ⟨gown g2 ++ (own (r.set iG .no) ++ B.ps), gr, g1, its, Po2, Ex2, S.tb, fun q hq => S.dom q (hsub q (List.mem_append_right _ hq)), n1, fun q hq z => ?_, fun q hq => ?_, ?_, ?_, ItA.mono (hide_sub hsub) A, hc, fun s v g' H' nw g ro ho => ?_, fun C g' H' nw g hx => k2 C g' H' (back nw g).1 hx⟩
  · rcases List.mem_append.mp z with z | z
    · exact n3 q hq q z rfl
    · rcases List.mem_append.mp z with z | z
      · exact ap2 q ((own_e q).mpr (.inl hq)) z
      · exact old q ((own_e q).mpr (.inl hq)) z
  · obtain ⟨x, h1, h2⟩ := gown_in hq
    rcases hr x h1 with z | z | ⟨i, p, ds, hi2, rfl⟩
    · exact List.mem_append_left _ (gown_of z h2)
    · exact List.mem_append_right _ (List.mem_append_right _ (S.gp q (gown_of z h2)))
    · have ne : i ≠ iG := fun z => by subst z; rw [hi2] at hG; cases hG
      exact List.mem_append_right _ (List.mem_append_left _ (mem_own (i := i) (s := .ol p ds) (by rw [List.getElem?_set_ne (Ne.symm ne)]; exact hi2) h2))
  · exact GOk.all fun x hx => (GOk.memb (GOk.mono (hide_sub hsub) (fun _ _ => rfl) Gp) (List.mem_append_left _ hx))
  · exact GOk.all fun x hx => (GOk.memb (GOk.mono (hide_sub hsub) (fun _ _ => rfl) (GOk.all fun y hy => (inr' y hy).ok S)) hx)
  · obtain ⟨S', sub⟩ := back nw g
    refine k1 s v g' H' S' ?_ ho
    cases s with
    | da d => exact Rp.mono (hide_sub sub) ro
    | rf a => exact ro
    | nl _ => exact ro
    | nd _ => exact ro
end
end Tp

namespace Tp
open PySem L2
/-! ### calls over objects -/
/-- the def called x, called with n values and the keywords ks; gI: what its parameters get -/
def CalM (P : Program) (w : World) (T : List Addr) (K : PySem.W.Frag) (mg : Str → Option Value) (base : Heap) (x : Str) (k : Nat) (c : CtM) (n : Nat) (ks : List Str) (gI : List It → List It → List It) : Prop :=
  ∃ f fd ps g gV, FnOk P w K mg base (L2.CX P w) k f fd ps (spM T K c) ∧ mg x = some (.ref f) ∧ PySem.W.keepIn K (.ref f) = true ∧ KBn K fd ps n ks g gV ∧ ∀ (Hh : Hp) (vs zs : List V) (its iks : List It), its.length = n → iks.length = ks.length → ItA K Hh vs its → ItA K Hh zs iks → ItA K Hh (gV vs zs) (gI its iks)
def MthM (P : Program) (w : World) (T : List Addr) (K : PySem.W.Frag) (mg : Str → Option Value) (base : Heap) (C : Addr) (m : Str) (k : Nat) (c : CtM) : Prop :=
  ∃ f fd ps, FnOk P w K mg base (L2.CX P w) k f fd ps (spM T K c) ∧ Meth K C m f ∧ Binds K fd ps []
def PrpM (P : Program) (w : World) (T : List Addr) (K : PySem.W.Frag) (mg : Str → Option Value) (base : Heap) (C : Addr) (m : Str) (k : Nat) (c : CtM) : Prop :=
  ∃ pr f fd ps, FnOk P w K mg base (L2.CX P w) k f fd ps (spM T K c) ∧ PropOf K C m pr f ∧ Binds K fd ps []
def MakM (P : Program) (w : World) (T : List Addr) (K : PySem.W.Frag) (mg : Str → Option Value) (base : Heap) (x : Str) (C : Addr) (k : Nat) (c : CtM) (n : Nat) (ks : List Str) (gI : List It → List It → List It) : Prop :=
  ∃ f fd ps g gV, FnOk P w K mg base (L2.CX P w) k f fd ps (spM T K c) ∧ Mk K C f ∧ mg x = some (.ref C) ∧ KBn K fd ps (n + 1) ks g gV ∧ ∀ (Hh : Hp) (vs zs : List V) (its iks : List It), its.length = n + 1 → iks.length = ks.length → ItA K Hh vs its → ItA K Hh zs iks → ItA K Hh (gV vs zs) (gI its iks)
/-- C(.., k = v, ..), exceptions by the slots -/
def tMakeNS (C : Addr) (n m : Nat) (sp : Sp) (gV : List V → List V → List V) (E : St → XK) (t tk : TA) : TE := fun σ H Q => t σ H fun vs H1 => tk σ H1 fun zs H2 => vs.length = n ∧ zs.length = m ∧ ∀ x dx, H2 x = none → H2 dx = none → dx ≠ x →
  sp (gV (.ref x :: vs) zs) (upd (upd H2 dx (.own x)) x (.ins C dx [])) (fun v H3 => v = .non ∧ Q (.ref x) H3) (E σ)
section
variable {X : Cx} {CX : CXT} {k n : Nat} {f C : Addr} {fd : FuncData} {ps ks : List Str} {sp : Sp} {E : St → XK} {x : Str} {p pos : Pos} {e : Expr} {es : List Expr} {kws : List Keyword} {t tk : TA} {g : List Value → List Value → List Value} {gV : List V → List V → List V}
theorem run_makeNS {pins : List (Addr × Obj)} {σ : St} {H : Hp} {s : Shared} {Q : VK} {us ws : List Value} {vs zs : List V} (M : Mk X.K C f) (F : FnOk X.prog X.w X.K X.mg X.base CX k f fd ps sp) (hr : Room (k + 1) X.A) (hb : KBn X.K fd ps (n + 1) ks g gV) (hx : PassesAt CX X σ (E σ))
    (I : Inv X pins σ H s) (r : Vals vs us) (rz : Vals zs ws) (l1 : vs.length = n) (l2 : zs.length = ks.length)
    (h : ∀ x dx, H x = none → H dx = none → dx ≠ x → sp (gV (.ref x :: vs) zs) (upd (upd H dx (.own x)) x (.ins C dx [])) (fun v H2 => v = .non ∧ Q (.ref x) H2) (E σ)) :
    wpAny (model X.prog X.w) X.A (call (.ref C) us (ks.zip ws)) (EP X pins σ Q) X.xe s := by
  have hq := h (s.heap.objs.size + 1) s.heap.objs.size (I.hok.fresh (Nat.le_succ _)) (I.hok.fresh (Nat.le_refl _)) (Nat.ne_of_lt (Nat.lt_succ_self _))
  have I2 := Inv.made (C := C) I
  have r1 : Vals (V.ref (s.heap.objs.size + 1) :: vs) (Value.ref (s.heap.objs.size + 1) :: us) := .cons rfl r
  have r2 := hb.rel r1 rz
  have n1 : (Value.ref (s.heap.objs.size + 1) :: us).length = n + 1 := by
    rw [List.length_cons, ← r.length, l1]
  refine wpAny_call (make_map (f := f) I.kIn M.makes M.init (beq_iff_eq.mp M.fn) (codeAny_mono (F.run _ X.stack _ _ ⟨Value.ref (s.heap.objs.size + 1) :: us, ks.zip ws⟩ (g (Value.ref (s.heap.objs.size + 1) :: us) ws) _ _ (E σ) (hr.make C us (ks.zip ws))
    (I2.env0.make C us (ks.zip ws)) (hb.to _ (Value.ref (s.heap.objs.size + 1) :: us) ws I2.kIn n1 (rz.length.symm.trans l2)) r2 hq) fun r s' hq' => ?_))
  cases r with
  | error e => exact hx pins _ _ e s' I2 hq'
  | ok fl =>
    cases fl with
    | ret u =>
      obtain ⟨v, H', I3, rv, ev, q3⟩ := I2.after hq'
      subst ev
      exact ⟨rv, ⟨V.ref (s.heap.objs.size + 1), H', I3, rfl, q3⟩⟩
    | next => exact False.elim hq'
    | brk => exact False.elim hq'
    | cont => exact False.elim hq'
theorem pe_makeNS0 (M : Mk X.K C f) (F : FnOk X.prog X.w X.K X.mg X.base CX k f fd ps sp) (hr : Room (k + 1) X.A) (hg : Gl X x) (hm : X.mg x = some (.ref C)) (hb : KBn X.K fd ps 1 ks g gV) (hx : ∀ σ, PassesAt CX X σ (E σ)) (hkw : PK X kws tk)
    (hall : (backToKw pos (keywordEach kws X.env)).all (·.1.isSome) = true := by rfl) (hks : (backToKw pos (keywordEach kws X.env)).filterMap (·.1) = ks := by rfl) (hdb : (x == ("__debug__" : Str)) = false := by decide)
    (hpl : ((backTo pos (starEach [] X.env)).any (·.1) || (backToKw pos (keywordEach kws X.env)).any (·.1.isNone)) = false := by rfl) :
    PE X (.Call (.Name x p) [] kws pos) (tMakeNS C 0 ks.length sp gV E tNil tk) := by
  refine ⟨fun pins s σ H Q I h => ?_⟩
  refine wpAny_Call_Name_kw (ld_glob I hg hm ?_ hdb)
  refine PySem.W.callWith_KW0 (h₀ := X.base) I.ok.mod.kin M.kp hall ?_ hpl
  refine thn (hkw.run pos pins s σ H _ I h) fun ws s2 ⟨zs, H2, I2, rz, l1, l2, q2⟩ => ⟨I2.kIn, ?_⟩
  rw [hks]
  exact run_makeNS (us := []) (vs := []) M F hr hb (hx σ) I2 .nil rz rfl l2 q2
theorem pe_makeNS (M : Mk X.K C f) (F : FnOk X.prog X.w X.K X.mg X.base CX k f fd ps sp) (hr : Room (k + 1) X.A) (hg : Gl X x) (hm : X.mg x = some (.ref C)) (hb : KBn X.K fd ps (n + 1) ks g gV) (hx : ∀ σ, PassesAt CX X σ (E σ)) (ha : PA X (e :: es) t) (hkw : PK X kws tk)
    (hall : (backToKw pos (keywordEach kws X.env)).all (·.1.isSome) = true := by rfl) (hks : (backToKw pos (keywordEach kws X.env)).filterMap (·.1) = ks := by rfl) (hdb : (x == ("__debug__" : Str)) = false := by decide)
    (he : starEach (e :: es) X.env = (false, eval e X.env) :: starEach es X.env := by rfl) (hpl : ((backTo pos (starEach (e :: es) X.env)).any (·.1) || (backToKw pos (keywordEach kws X.env)).any (·.1.isNone)) = false := by rfl) :
    PE X (.Call (.Name x p) (e :: es) kws pos) (tMakeNS C n ks.length sp gV E t tk) := by
  refine ⟨fun pins s σ H Q I h => ?_⟩
  refine wpAny_Call_Name_kw (ld_glob I hg hm ?_ hdb)
  refine PySem.W.callWith_KW (h₀ := X.base) I.ok.mod.kin M.kp hall (thn (ha.run pos pins s σ H _ I h) fun us s1 ⟨vs, H1, I1, r, q⟩ => ?_) hpl he
  refine thn (hkw.run pos pins s1 σ H1 _ I1 q) fun ws s2 ⟨zs, H2, I2, rz, l1, l2, q2⟩ => ⟨I2.kIn, ?_⟩
  rw [hks]
  exact run_makeNS M F hr hb (hx σ) I2 r rz l1 l2 q2
end
section
variable {X : Cx} {B : Bx} {W : WX} {P : Po} {r q : List Sl} {e a b o tg : Expr} {es : List Expr} {kws : List Keyword} {rest body orelse : List Stmt} {d : D} {ds : List D} {pos pos' p1 apos : Pos} {k kk n : Nat} {x f m : Str} {ks : List Str} {gl g1 g2 gr : List (Addr × Nd)} {p C dx l : Addr} {fs : List (Str × It)} {t : It} {its iks : List It} {c : CtM} {Po : Rs → Prop} {Po2 Po3 : Rs → List (Addr × Nd) → Prop} {Ex : Addr → Prop} {Ex2 Ex3 : Addr → List (Addr × Nd) → Prop} {gI : List It → List It → List It}
theorem rsO_ok {K : PySem.W.Frag} {H1 H' : Hp} {ps : List Addr} {v : V} {s : Rs} (h : RsO K (hide H' ps) v s) : RsOk K ⟨H1, ps, [], []⟩ H' v s := by
  cases s with
  | da d => exact h
  | rf a => exact h
  | nl _ => exact h.elim
  | nd _ => exact h.elim
/-! reading calls -/
theorem ecCallM (g : Go X W kk) (M : CalM X.prog X.w B.ts X.K X.mg X.base x k c n ks gI) (hk : k ≤ kk) (ha : EAi X B (e :: es) r its) (hkw : EKi X B kws r iks) (hr : ∀ x ∈ gr, InG B r x) (hc : c (gI its iks) gr [] (fun s _ => Po s) (fun C _ => Ex C)) (hn : its.length = n := by rfl) (hn2 : iks.length = ks.length := by rfl)
    (hg : Gl X x := by rfl) (hall : (backToKw pos (keywordEach kws X.env)).all (·.1.isSome) = true := by rfl) (hks : (backToKw pos (keywordEach kws X.env)).filterMap (·.1) = ks := by rfl)
    (hdb : (x == ("__debug__" : Str)) = false := by decide) (he : starEach (e :: es) X.env = (false, eval e X.env) :: starEach es X.env := by rfl)
    (hpl : ((backTo pos (starEach (e :: es) X.env)).any (·.1) || (backToKw pos (keywordEach kws X.env)).any (·.1.isNone)) = false := by rfl) : EC X B W (.Call (.Name x p1) (e :: es) kws pos) r Po Ex := by
  obtain ⟨f, fd, ps, gg, gV, F, hm, hkp, hb, hI⟩ := M
  obtain ⟨ta, pa, ka⟩ := ha
  obtain ⟨tk, pk, kk'⟩ := hkw
  refine ⟨_, pe_callNS F (g.hr.mono hk) hg hm hkp hb (fun σ => passAt g.tk σ) pa pk hall hks hdb he hpl, fun H σ S Q q qx => ka H σ S _ fun vs H1 s1 y => kk' H1 σ (S.mono s1) _ fun zs H2 s2 y2 => ?_⟩
  have S2 := (S.mono s1).mono s2
  exact ⟨y.len.trans hn, y2.len.trans hn2, spM_read S2 hr (hI _ _ _ _ _ hn hn2 (y.mono (hide_mono s2)) y2) hc (fun s v g' H' z ro ho => q s v H2 H' (s1.trans s2) z (rsO_ok ro) ho) fun C g' H' z hx => qx C H' ((s1.trans s2).trans z) hx⟩
theorem ecMethM {pl : Sem Bool} (g : Go X W kk) (ho : ER X B o r p) (hG : InG B r (p, .ob C dx fs)) (cl : Cls X.K C) (M : MthM X.prog X.w B.ts X.K X.mg X.base C m k c) (hk : k ≤ kk) (hl : fs.lookup m = none) (ha : EAi X B (e :: es) r its) (hr : ∀ x ∈ gr, InG B r x) (hc : c (.rf p :: its) gr [] (fun s _ => Po s) (fun C _ => Ex C))
    (hst : starEach (e :: es) X.env = (false, eval e X.env) :: starEach es X.env := by rfl) (hpl : (backTo pos (starEach es X.env)).any (·.1) = false := by rfl)
    (ht : eval (.Call (.Attribute o m apos) (e :: es) [] pos) X.env = (do
      let ov ← eval o X.env
      standAt apos.atName
      let (f, first) ← holding [ov] (getMethod ov m pl)
      callWith pos f first (backTo pos (starEach (e :: es) X.env)) (backToKw pos (keywordEach [] X.env))) := by rfl) : EC X B W (.Call (.Attribute o m apos) (e :: es) [] pos) r Po Ex := by
  obtain ⟨f, fd, ps, F, hm, hb⟩ := M
  obtain ⟨te, pp, kt⟩ := ho
  obtain ⟨ta, pa, ka⟩ := ha
  refine ⟨_, pe_methX pp cl hm F (g.hr.mono hk) hb (fun σ => passAt g.tk σ) pa hst hpl ht, fun H σ S Q q qx => kt H σ S _ fun H1 s1 => ?_⟩
  obtain ⟨vs, e1, e2, z⟩ := hG.ok (S.mono s1)
  refine ⟨p, dx, vs, rfl, e1, z.none hl, ka H1 σ (S.mono s1) _ fun ws H2 s2 y => ?_⟩
  exact spM_read ((S.mono s1).mono s2) hr (.cons (i := .rf p) rfl y) hc (fun s v g' H' z ro ho => q s v H2 H' (s1.trans s2) z (rsO_ok ro) ho) fun C g' H' z hx => qx C H' ((s1.trans s2).trans z) hx
theorem ecMethM0 {pl : Sem Bool} (g : Go X W kk) (ho : ER X B o r p) (hG : InG B r (p, .ob C dx fs)) (cl : Cls X.K C) (M : MthM X.prog X.w B.ts X.K X.mg X.base C m k c) (hk : k ≤ kk) (hl : fs.lookup m = none) (hr : ∀ x ∈ gr, InG B r x) (hc : c [.rf p] gr [] (fun s _ => Po s) (fun C _ => Ex C))
    (ht : eval (.Call (.Attribute o m apos) [] [] pos) X.env = (do
      let ov ← eval o X.env
      standAt apos.atName
      let (f, first) ← holding [ov] (getMethod ov m pl)
      callWith pos f first (backTo pos (starEach [] X.env)) (backToKw pos (keywordEach [] X.env))) := by rfl) : EC X B W (.Call (.Attribute o m apos) [] [] pos) r Po Ex := by
  obtain ⟨f, fd, ps, F, hm, hb⟩ := M
  obtain ⟨te, pp, kt⟩ := ho
  refine ⟨_, pe_methX0 pp cl hm F (g.hr.mono hk) hb (fun σ => passAt g.tk σ) ht, fun H σ S Q q qx => kt H σ S _ fun H1 s1 => ?_⟩
  obtain ⟨vs, e1, e2, z⟩ := hG.ok (S.mono s1)
  refine ⟨p, dx, vs, rfl, e1, z.none hl, ?_⟩
  exact spM_read (S.mono s1) hr (.cons (i := .rf p) rfl .nil) hc (fun s v g' H' z ro ho => q s v H1 H' s1 z (rsO_ok ro) ho) fun C g' H' z hx => qx C H' (s1.trans z) hx
theorem ecPropM (g : Go X W kk) (ho : ER X B o r p) (hG : InG B r (p, .ob C dx fs)) (cl : Cls X.K C) (M : PrpM X.prog X.w B.ts X.K X.mg X.base C m k c) (hk : k + 1 ≤ kk) (hr : ∀ x ∈ gr, InG B r x) (hc : c [.rf p] gr [] (fun s _ => Po s) (fun _ _ => False)) (hab : attributeBase o m X.env (eval o X.env) = eval o X.env := by rfl) : EC X B W (.Attribute o m pos) r Po (fun _ => False) := by
  obtain ⟨pr, f, fd, ps, F, hm, hb⟩ := M
  obtain ⟨te, pp, kt⟩ := ho
  refine ⟨_, pe_prop (E := fun _ _ _ => False) pp cl hm F (g.hr.mono hk) hb .nil passL hab, fun H σ S Q q qx => kt H σ S _ fun H1 s1 => ?_⟩
  obtain ⟨vs, e1, e2, z⟩ := hG.ok (S.mono s1)
  refine ⟨p, dx, vs, rfl, e1, ?_⟩
  exact spM_read (S.mono s1) hr (.cons (i := .rf p) rfl .nil) hc (fun s v g' H' z ro ho => q s v H1 H' s1 z (rsO_ok ro) ho) fun _ _ _ _ hx => hx.elim
/-! calls that turn ghosts, or make some -/
theorem eoCallM (iG : Nat) (g : Go X W kk) (M : CalM X.prog X.w B.ts X.K X.mg X.base x k c n ks gI) (hk : k ≤ kk) (hG : r[iG]? = some (.gs gl)) (hp : gl.Perm (g1 ++ g2)) (ha : EAi X B (e :: es) r its) (hkw : EKi X B kws r iks) (hr : ∀ x ∈ gr, x ∈ g2 ∨ x ∈ B.gr ∨ InO r x) (hc : c (gI its iks) gr g1 Po2 Ex2)
    (h1 : ∀ s g', Po2 s g' → Po3 s (g' ++ g2)) (h2 : ∀ C g', Ex2 C g' → Ex3 C (g' ++ g2)) (hn : its.length = n := by rfl) (hn2 : iks.length = ks.length := by rfl)
    (hg : Gl X x := by rfl) (hall : (backToKw pos (keywordEach kws X.env)).all (·.1.isSome) = true := by rfl) (hks : (backToKw pos (keywordEach kws X.env)).filterMap (·.1) = ks := by rfl)
    (hdb : (x == ("__debug__" : Str)) = false := by decide) (he : starEach (e :: es) X.env = (false, eval e X.env) :: starEach es X.env := by rfl)
    (hpl : ((backTo pos (starEach (e :: es) X.env)).any (·.1) || (backToKw pos (keywordEach kws X.env)).any (·.1.isNone)) = false := by rfl) : EOb X B W iG (.Call (.Name x p1) (e :: es) kws pos) r Po3 Ex3 := by
  obtain ⟨f, fd, ps, gg, gV, F, hm, hkp, hb, hI⟩ := M
  obtain ⟨ta, pa, ka⟩ := ha
  obtain ⟨tk, pk, kk'⟩ := hkw
  refine ⟨_, pe_callNS F (g.hr.mono hk) hg hm hkp hb (fun σ => passAt g.tk σ) pa pk hall hks hdb he hpl, fun H σ S Q q qx => ka H σ S _ fun vs H1 s1 y => kk' H1 σ (S.mono s1) _ fun zs H2 s2 y2 => ?_⟩
  have S2 := (S.mono s1).mono s2
  exact ⟨y.len.trans hn, y2.len.trans hn2, spM_own S2 hG hp hr (hI _ _ _ _ _ hn hn2 (y.mono (hide_mono s2)) y2) hc (fun s v g' H' S' ro ho => q s v _ H' S' ro (h1 s g' ho)) fun C g' H' S' hx => qx C _ H' S' (h2 C g' hx)⟩
theorem eoMethM (iG : Nat) {pl : Sem Bool} (g : Go X W kk) (ho : ER X B o r p) (hI : InG B r (p, .ob C dx fs)) (cl : Cls X.K C) (M : MthM X.prog X.w B.ts X.K X.mg X.base C m k c) (hk : k ≤ kk) (hl : fs.lookup m = none) (hG : r[iG]? = some (.gs gl)) (hp : gl.Perm (g1 ++ g2)) (ha : EAi X B (e :: es) r its) (hr : ∀ x ∈ gr, x ∈ g2 ∨ x ∈ B.gr ∨ InO r x) (hc : c (.rf p :: its) gr g1 Po2 Ex2)
    (h1 : ∀ s g', Po2 s g' → Po3 s (g' ++ g2)) (h2 : ∀ C g', Ex2 C g' → Ex3 C (g' ++ g2))
    (hst : starEach (e :: es) X.env = (false, eval e X.env) :: starEach es X.env := by rfl) (hpl : (backTo pos (starEach es X.env)).any (·.1) = false := by rfl)
    (ht : eval (.Call (.Attribute o m apos) (e :: es) [] pos) X.env = (do
      let ov ← eval o X.env
      standAt apos.atName
      let (f, first) ← holding [ov] (getMethod ov m pl)
      callWith pos f first (backTo pos (starEach (e :: es) X.env)) (backToKw pos (keywordEach [] X.env))) := by rfl) : EOb X B W iG (.Call (.Attribute o m apos) (e :: es) [] pos) r Po3 Ex3 := by
  obtain ⟨f, fd, ps, F, hm, hb⟩ := M
  obtain ⟨te, pp, kt⟩ := ho
  obtain ⟨ta, pa, ka⟩ := ha
  refine ⟨_, pe_methX pp cl hm F (g.hr.mono hk) hb (fun σ => passAt g.tk σ) pa hst hpl ht, fun H σ S Q q qx => kt H σ S _ fun H1 s1 => ?_⟩
  obtain ⟨vs, e1, e2, z⟩ := hI.ok (S.mono s1)
  refine ⟨p, dx, vs, rfl, e1, z.none hl, ka H1 σ (S.mono s1) _ fun ws H2 s2 y => ?_⟩
  exact spM_own ((S.mono s1).mono s2) hG hp hr (.cons (i := .rf p) rfl y) hc (fun s v g' H' S' ro ho => q s v _ H' S' ro (h1 s g' ho)) fun C g' H' S' hx => qx C _ H' S' (h2 C g' hx)
theorem eoMethM0 (iG : Nat) {pl : Sem Bool} (g : Go X W kk) (ho : ER X B o r p) (hI : InG B r (p, .ob C dx fs)) (cl : Cls X.K C) (M : MthM X.prog X.w B.ts X.K X.mg X.base C m k c) (hk : k ≤ kk) (hl : fs.lookup m = none) (hG : r[iG]? = some (.gs gl)) (hp : gl.Perm (g1 ++ g2)) (hr : ∀ x ∈ gr, x ∈ g2 ∨ x ∈ B.gr ∨ InO r x) (hc : c [.rf p] gr g1 Po2 Ex2)
    (h1 : ∀ s g', Po2 s g' → Po3 s (g' ++ g2)) (h2 : ∀ C g', Ex2 C g' → Ex3 C (g' ++ g2))
    (ht : eval (.Call (.Attribute o m apos) [] [] pos) X.env = (do
      let ov ← eval o X.env
      standAt apos.atName
      let (f, first) ← holding [ov] (getMethod ov m pl)
      callWith pos f first (backTo pos (starEach [] X.env)) (backToKw pos (keywordEach [] X.env))) := by rfl) : EOb X B W iG (.Call (.Attribute o m apos) [] [] pos) r Po3 Ex3 := by
  obtain ⟨f, fd, ps, F, hm, hb⟩ := M
  obtain ⟨te, pp, kt⟩ := ho
  refine ⟨_, pe_methX0 pp cl hm F (g.hr.mono hk) hb (fun σ => passAt g.tk σ) ht, fun H σ S Q q qx => kt H σ S _ fun H1 s1 => ?_⟩
  obtain ⟨vs, e1, e2, z⟩ := hI.ok (S.mono s1)
  refine ⟨p, dx, vs, rfl, e1, z.none hl, ?_⟩
  exact spM_own (S.mono s1) hG hp hr (.cons (i := .rf p) rfl .nil) hc (fun s v g' H' S' ro ho => q s v _ H' S' ro (h1 s g' ho)) fun C g' H' S' hx => qx C _ H' S' (h2 C g' hx)
/-- a new instance among the ghosts -/
theorem SOk.born {iG : Nat} {H : Hp} {σ : St} {a : Addr} (S : SOk X.K B r H σ) (hG : r[iG]? = some (.gs gl)) (na : H a = none) (nd : H dx = none) (ne : dx ≠ a) :
    SOk X.K B (r.set iG (.gs ((a, .ob C dx []) :: gl))) (upd (upd H dx (.own a)) a (.ins C dx [])) σ ∧ Same (hid B r H) (hid B (r.set iG (.gs ((a, .ob C dx []) :: gl))) (upd (upd H dx (.own a)) a (.ins C dx []))) := by
  obtain ⟨G, gnd⟩ := S.ghosts hG
  have there : ∀ q ∈ gown gl, ∃ u, H q = some u ∧ NT u := fun q hq => GOk.there G hq
  have sm : Same H (upd (upd H dx (.own a)) a (.ins C dx [])) := (same_new nd).trans (same_new (by rw [upd_ne (Ne.symm ne)]; exact na))
  refine ⟨S.gset hG (fun q o eq _ => sm q o eq) ?_ ?_ fun hh => ?_, fun q u eq => ?_⟩
  · show (a :: dx :: gown gl).Nodup
    refine List.nodup_cons.mpr ⟨fun z => ?_, List.nodup_cons.mpr ⟨fun z => ?_, gnd⟩⟩
    · rcases List.mem_cons.mp z with z | z
      · exact ne z.symm
      · obtain ⟨u, eu, nt⟩ := there a z; rw [na] at eu; cases eu
    · obtain ⟨u, eu, nt⟩ := there dx z; rw [nd] at eu; cases eu
  · intro q hq
    rcases List.mem_cons.mp hq with z | z
    · exact .inr (z ▸ na)
    · rcases List.mem_cons.mp z with z | z
      · exact .inr (z ▸ nd)
      · exact .inl z
  · refine ⟨⟨[], upd_same, by rw [upd_ne ne, upd_same], .nil⟩, GOk.mono hh (fun q hq => ?_) G⟩
    obtain ⟨u, eu, nt⟩ := there q hq
    rw [eu]; exact sm.k eu nt
  · have eq : hide H (own r ++ B.ps) q = some u := eq
    by_cases hq : q ∈ own r ++ B.ps
    · rw [hide_in hq] at eq; cases eq
    · rw [hide_out hq] at eq
      show Ext1 u (hide _ (own (r.set iG (.gs ((a, .ob C dx []) :: gl))) ++ B.ps) q)
      rw [hide_out fun z => ?_]
      · exact sm q u eq
      · rcases List.mem_append.mp z with z | z
        · rcases own_set_mem z with z | z
          · rcases List.mem_cons.mp z with z | z
            · rw [z, na] at eq; cases eq
            · rcases List.mem_cons.mp z with z | z
              · rw [z, nd] at eq; cases eq
              · exact hq (List.mem_append_left _ (mem_own hG z))
          · exact hq (List.mem_append_left _ z)
        · exact hq (List.mem_append_right _ z)
theorem eoMakeM_run {iG : Nat} {H : Hp} {σ : St} {vs : List V} {Q : VK} {a : Addr} {E : XK} (S : SOk X.K B r H σ) (hG : r[iG]? = some (.gs gl)) (hp : gl.Perm (g1 ++ g2)) (hr : ∀ x ∈ gr, x ∈ g2 ∨ x ∈ B.gr ∨ InO r x) (na : H a = none) (nd : H dx = none) (ne : dx ≠ a)
    (A : ∀ Hh, Same (hid B r H) Hh → ItA X.K Hh vs its) (hc : c its gr ((a, .ob C dx []) :: g1) (fun s gl' => s = .da .none ∧ Po2 (.rf a) gl') Ex2)
    (k1 : ∀ v g' H', SOk X.K B (r.set iG (.gs (g' ++ g2))) H' σ → Po2 (.rf a) g' → v = .non → Q v H') (k2 : ∀ C g' H', SOk X.K B (r.set iG (.gs (g' ++ g2))) H' σ → Ex2 C g' → E (.ref C) none H') : spM B.ts X.K c vs (upd (upd H dx (.own a)) a (.ins C dx [])) Q E := by
  obtain ⟨S2, hh⟩ := S.born (C := C) hG na nd ne
  have hG2 := get_set (s' := .gs ((a, .ob C dx []) :: gl)) hG
  refine spM_own S2 hG2 (g1 := (a, .ob C dx []) :: g1) (hp.cons _) (fun x hx => (hr x hx).elim .inl fun z => .inr (z.elim .inl fun y => .inr (y.gset hG))) (A _ hh) hc (fun s v g' H' S3 ro ho => ?_) fun C g' H' S3 hx => ?_
  · obtain ⟨hs, ho⟩ := ho
    subst hs
    cases ro
    rw [set_set] at S3
    exact k1 _ g' H' S3 ho rfl
  · rw [set_set] at S3
    exact k2 C g' H' S3 hx
theorem eoMakeM (iG : Nat) (g : Go X W kk) (M : MakM X.prog X.w B.ts X.K X.mg X.base x C k c n ks gI) (hk : k + 1 ≤ kk) (hG : r[iG]? = some (.gs gl)) (hp : gl.Perm (g1 ++ g2)) (ha : EAi X B (e :: es) r its) (hkw : EKi X B kws r iks) (hr : ∀ x ∈ gr, x ∈ g2 ∨ x ∈ B.gr ∨ InO r x) (hc : ∀ p dx, c (gI (.rf p :: its) iks) gr ((p, .ob C dx []) :: g1) (fun s gl' => s = .da .none ∧ Po2 (.rf p) gl') Ex2)
    (h1 : ∀ s g', Po2 s g' → Po3 s (g' ++ g2)) (h2 : ∀ C g', Ex2 C g' → Ex3 C (g' ++ g2)) (hn : its.length = n := by rfl) (hn2 : iks.length = ks.length := by rfl)
    (hg : Gl X x := by rfl) (hall : (backToKw pos (keywordEach kws X.env)).all (·.1.isSome) = true := by rfl) (hks : (backToKw pos (keywordEach kws X.env)).filterMap (·.1) = ks := by rfl)
    (hdb : (x == ("__debug__" : Str)) = false := by decide) (he : starEach (e :: es) X.env = (false, eval e X.env) :: starEach es X.env := by rfl)
    (hpl : ((backTo pos (starEach (e :: es) X.env)).any (·.1) || (backToKw pos (keywordEach kws X.env)).any (·.1.isNone)) = false := by rfl) : EOb X B W iG (.Call (.Name x p1) (e :: es) kws pos) r Po3 Ex3 := by
  obtain ⟨f, fd, ps, gg, gV, F, hm, hx, hb, hI⟩ := M
  obtain ⟨ta, pa, ka⟩ := ha
  obtain ⟨tk, pk, kk'⟩ := hkw
  refine ⟨_, pe_makeNS hm F (g.hr.mono hk) hg hx hb (fun σ => passAt g.tk σ) pa pk hall hks hdb he hpl, fun H σ S Q q qx => ka H σ S _ fun vs H1 s1 y => kk' H1 σ (S.mono s1) _ fun zs H2 s2 y2 => ⟨y.len.trans hn, y2.len.trans hn2, fun p dx na nd ne => ?_⟩⟩
  exact eoMakeM_run ((S.mono s1).mono s2) hG hp hr na nd ne (fun Hh hh => hI _ _ _ (.rf p :: its) _ (congrArg (· + 1) hn) hn2 (.cons rfl ((y.mono (hide_mono s2)).mono hh)) (y2.mono hh)) (hc p dx) (fun v g' H' S' ho e => ⟨e, q (.rf p) _ _ H' S' rfl (h1 _ g' ho)⟩) fun C g' H' S' hx => qx C _ H' S' (h2 C g' hx)
theorem eoMakeM0 (iG : Nat) (g : Go X W kk) (M : MakM X.prog X.w B.ts X.K X.mg X.base x C k c 0 ks gI) (hk : k + 1 ≤ kk) (hG : r[iG]? = some (.gs gl)) (hp : gl.Perm (g1 ++ g2)) (hkw : EKi X B kws r iks) (hr : ∀ x ∈ gr, x ∈ g2 ∨ x ∈ B.gr ∨ InO r x) (hc : ∀ p dx, c (gI [.rf p] iks) gr ((p, .ob C dx []) :: g1) (fun s gl' => s = .da .none ∧ Po2 (.rf p) gl') Ex2)
    (h1 : ∀ s g', Po2 s g' → Po3 s (g' ++ g2)) (h2 : ∀ C g', Ex2 C g' → Ex3 C (g' ++ g2)) (hn2 : iks.length = ks.length := by rfl)
    (hg : Gl X x := by rfl) (hall : (backToKw pos (keywordEach kws X.env)).all (·.1.isSome) = true := by rfl) (hks : (backToKw pos (keywordEach kws X.env)).filterMap (·.1) = ks := by rfl)
    (hdb : (x == ("__debug__" : Str)) = false := by decide)
    (hpl : ((backTo pos (starEach [] X.env)).any (·.1) || (backToKw pos (keywordEach kws X.env)).any (·.1.isNone)) = false := by rfl) : EOb X B W iG (.Call (.Name x p1) [] kws pos) r Po3 Ex3 := by
  obtain ⟨f, fd, ps, gg, gV, F, hm, hx, hb, hI⟩ := M
  obtain ⟨tk, pk, kk'⟩ := hkw
  refine ⟨_, pe_makeNS0 hm F (g.hr.mono hk) hg hx hb (fun σ => passAt g.tk σ) pk hall hks hdb hpl, fun H σ S Q q qx => kk' H σ S _ fun zs H2 s2 y2 => ⟨rfl, y2.len.trans hn2, fun p dx na nd ne => ?_⟩⟩
  exact eoMakeM_run (S.mono s2) hG hp hr na nd ne (fun Hh hh => hI _ _ _ [.rf p] _ rfl hn2 (.cons rfl .nil) (y2.mono hh)) (hc p dx) (fun v g' H' S' ho e => ⟨e, q (.rf p) _ _ H' S' rfl (h1 _ g' ho)⟩) fun C g' H' S' hx => qx C _ H' S' (h2 C g' hx)
end
end Tp

namespace Tp
open PySem L2
/-! ### own ==, isinstance of an own class -/
structure ClsT (K : PySem.W.Frag) (C : Addr) : Prop where
  ha : PySem.W.findIn K (.ref C) "__class__" = some (some (.builtin "object.__class__"))
  hn : PySem.W.specialIn K (.builtin "object.__class__") "__get__" = some (some (.builtin "getset_descriptor.__get__"))
  htk : PySem.W.takesIn K (.builtin "object.__class__") = some true
  hm : PySem.W.mroIn K C (.type "object") = some true
def clsTB (K : PySem.W.Frag) (C : Addr) : Bool := He.eqO (PySem.W.findIn K (.ref C) "__class__") (some (some (.builtin "object.__class__"))) &&
  (He.eqO (PySem.W.specialIn K (.builtin "object.__class__") "__get__") (some (some (.builtin "getset_descriptor.__get__"))) && (decide (PySem.W.takesIn K (.builtin "object.__class__") = some true) && decide (PySem.W.mroIn K C (.type "object") = some true)))
theorem clsTB_ok {K : PySem.W.Frag} {C : Addr} (h : clsTB K C = true) : ClsT K C := by
  obtain ⟨h1, h⟩ := He.ba h
  obtain ⟨h2, h⟩ := He.ba h
  obtain ⟨h3, h4⟩ := He.ba h
  exact ⟨He.eqO_ok h1, He.eqO_ok h2, of_decide_eq_true h3, of_decide_eq_true h4⟩
/-- an own class against a built-in one -/
def frnB (K : PySem.W.Frag) (C : Addr) (t : String) : Bool := decide (PySem.W.notFirst K C (.type t) = true) && decide (PySem.W.kitOne K (.type t) (.ref C) = some false)
section
variable {X : Cx} {CX : CXT} {n : Nat} {C f : Addr} {fd : FuncData} {ps : List Str} {sp : Sp} {E : St → XK}
def rOwn (K : PySem.W.Frag) (C : Addr) (sp : Sp) (E : XK) : R2 := fun x y H Q => ∃ a dx fs t, x = .ref a ∧ H a = some (.ins C dx fs) ∧ TyX K H y t ∧ PySem.W.notFirst K C t = true ∧ sp [x, y] H (fun v H' => ∃ b, v = .bl b ∧ Q v H') E
def tOwn (K : PySem.W.Frag) (C : Addr) (sp : Sp) (E : St → XK) (ta tb : TE) : TE := fun σ H Q => ta σ H fun x H1 => tb σ H1 fun y H2 => rOwn K C sp (E σ) x y H2 Q
theorem op_own {pins : List (Addr × Obj)} {s : Shared} {σ : St} {H : Hp} {x y : V} {v u : Value} {Q : VK} (F : FnOk X.prog X.w X.K X.mg X.base CX n f fd ps sp) (hm : Meth X.K C "__eq__" f) (hb : Binds X.K fd ps []) (hr : Room n X.A) (hx : PassesAt CX X σ (E σ)) (I : Inv X pins σ H s) (rx : RelV x v) (ry : RelV y u) (h : rOwn X.K C sp (E σ) x y H Q) :
    wpAny (model X.prog X.w) X.A (compareOp .Eq v u) (EP X pins σ Q) X.xe s := by
  obtain ⟨a, dx, fs, t, rfl, ea, ty, nf, q⟩ := h
  cases rx
  obtain ⟨P, Z, pz, _⟩ := kit_of I ry ty
  obtain ⟨mA, J, _⟩ := ins_get I.hok ea
  obtain ⟨od, J, _⟩ := J.look
  obtain ⟨m, hF⟩ := I.fr
  show wpAny (model X.prog X.w) X.A (richCompare .Eq (.ref a) u) (EP X pins σ Q) X.xe s
  refine PySem.W.cmp_K (op := .Eq) (tb := t) hr.units0 hF I.ok.mod.kin J (Z.ty _ _ I.kIn pz) nf hm.at_ hm.fn ?_
  refine wpAny_mono (run_fnS (us := [.ref a, u]) (vs := [.ref a, y]) F hr hb hx I (.cons rfl (.cons ry .nil)) q) (fun r s' z => ?_) fun _ _ z => z
  obtain ⟨w, H', I', rw', b, eb, hq⟩ := z
  subst eb
  cases rw'
  exact ⟨.bl b, H', I', rfl, hq⟩
variable {a b : Expr} {ta tb : TE} {pos : Pos}
theorem pe_own (F : FnOk X.prog X.w X.K X.mg X.base CX n f fd ps sp) (hm : Meth X.K C "__eq__" f) (hb : Binds X.K fd ps []) (hr : Room n X.A) (hx : ∀ σ, PassesAt CX X σ (E σ)) (pa : PE X a ta) (pb : PE X b tb) (hmk : behindInMarks .Eq b = false) : PE X (.Compare a [.Eq] [b] pos) (tOwn X.K C sp E ta tb) := by
  refine ⟨fun pins s σ H Q I h => ?_⟩
  exact wpAny_Compare1 (thn (pa.run pins s σ H _ I h) fun v s1 ⟨x, H1, I1, r1, q1⟩ => thn (pb.run pins s1 σ H1 _ I1 q1) fun u s2 ⟨y, H2, I2, r2, q2⟩ => op_own F hm hb hr (hx σ) I2 r1 r2 q2) hmk
end
section
variable {X : Cx} {B : Bx} {W : WX} {P : Po} {r q : List Sl} {e a b o tg : Expr} {es : List Expr} {kws : List Keyword} {rest body orelse : List Stmt} {d : D} {ds : List D} {pos pos' p1 p' apos : Pos} {k kk n : Nat} {x f m : Str} {ks : List Str} {gl gl' g1 g2 gr : List (Addr × Nd)} {p C dx C2 dx2 l : Addr} {fs fs2 : List (Str × It)} {t : It} {its iks : List It} {c : CtM} {z : Addr}
theorem evOwnEq {w : Bool} (g : Go X W kk) (M : MthM X.prog X.w B.ts X.K X.mg X.base C "__eq__" k c) (hk : k ≤ kk) (ha : ER X B a r p) (hI : InG B r (p, .ob C dx fs)) (hb : ER X B b r z) (hI2 : InG B r (z, .ob C dx2 fs2)) (cl : Cls X.K C) (ct : ClsT X.K C) (hr : ∀ x ∈ gr, InG B r x) (hc : c [.rf p, .rf z] gr [] (fun s _ => s = .da (.bool w)) (fun _ _ => False)) (hmk : behindInMarks .Eq b = false := by first | exact nomark _ | rfl) : EV X B (.Compare a [.Eq] [b] pos) r (.bool w) := by
  obtain ⟨f, fd, ps, F, hm, hb'⟩ := M
  obtain ⟨ta, pa, ka⟩ := ha
  obtain ⟨tb, pb, kb⟩ := hb
  refine ⟨_, pe_own F hm hb' (g.hr.mono hk) (fun σ => passAt g.tk σ) pa pb hmk, fun H σ S Q q => ka H σ S _ fun H1 s1 => kb H1 σ (S.mono s1) _ fun H2 s2 => ?_⟩
  have S2 := (S.mono s1).mono s2
  obtain ⟨vs, e1, e2, y⟩ := hI.ok S2
  obtain ⟨vs2, e3, e4, y2⟩ := hI2.ok S2
  refine ⟨p, dx, vs, .ref C, rfl, e1, .base (.ins e3 cl ct.ha ct.hn ct.htk ct.hm), by unfold PySem.W.notFirst; simp, ?_⟩
  refine spM_read S2 hr (.cons (i := .rf p) rfl (.cons (i := .rf z) rfl .nil)) hc (fun s v g' H' zz ro ho => ?_) fun _ _ _ _ hx => hx.elim
  subst ho
  cases ro
  exact ⟨w, rfl, q _ H' ((s1.trans s2).trans zz) (.bl w)⟩
theorem evOwnEqD {w : Bool} (g : Go X W kk) (M : MthM X.prog X.w B.ts X.K X.mg X.base C "__eq__" k c) (hk : k ≤ kk) (ha : ER X B a r p) (hI : InG B r (p, .ob C dx fs)) (hb : EV X B b r d) (hnf : frnB X.K C (tyN d) = true) (hr : ∀ x ∈ gr, InG B r x) (hc : c [.rf p, .da d] gr [] (fun s _ => s = .da (.bool w)) (fun _ _ => False)) (hmk : behindInMarks .Eq b = false := by first | exact nomark _ | rfl) : EV X B (.Compare a [.Eq] [b] pos) r (.bool w) := by
  obtain ⟨f, fd, ps, F, hm, hb'⟩ := M
  obtain ⟨ta, pa, ka⟩ := ha
  obtain ⟨tb, pb, kb⟩ := hb
  refine ⟨_, pe_own F hm hb' (g.hr.mono hk) (fun σ => passAt g.tk σ) pa pb hmk, fun H σ S Q q => ka H σ S _ fun H1 s1 => kb H1 σ (S.mono s1) _ fun y H2 s2 ry => ?_⟩
  have S2 := (S.mono s1).mono s2
  obtain ⟨vs, e1, e2, _⟩ := hI.ok S2
  refine ⟨p, dx, vs, .type (tyN d), rfl, e1, (ry.mono hide_same).ty, of_decide_eq_true (He.ba hnf).1, ?_⟩
  refine spM_read S2 hr (.cons (i := .rf p) rfl (.cons (i := .da d) ry .nil)) hc (fun s v g' H' zz ro ho => ?_) fun _ _ _ _ hx => hx.elim
  subst ho
  cases ro
  exact ⟨w, rfl, q _ H' ((s1.trans s2).trans zz) (.bl w)⟩
/-- isinstance(o, C), C an own class -/
theorem evIsO (he : ER X B e r p) (hI : InG B r (p, .ob C dx fs)) (cl : Cls X.K C) (ct : ClsT X.K C) (hC : X.mg x = some (.ref C)) (hm : X.mg "isinstance" = none) (hg : Gl X "isinstance" := by rfl) (hgT : Gl X x := by rfl) (hd : (x == ("__debug__" : Str)) = false := by decide) (hst : NSt X e := by exact fun _ => rfl) (hst2 : NSt X (.Name x p') := by exact fun _ => rfl) : EV X B (.Call (.Name "isinstance" p1) [e, .Name x p'] [] pos) r (.bool true) := by
  obtain ⟨te, pp, q⟩ := he
  exact ⟨_, pe_callB call_isi hg hm (by decide +kernel) (pa_cons pp (pa_cons (pe_glob (v := .ref C) hgT hC rfl hd) pa_nil (hst2 _)) (hst _)) (he := hst _) (hpl := by rw [hst2]; rfl), fun H σ S Q g => q H σ S _ fun H1 s1 => by
    obtain ⟨vs, e1, e2, _⟩ := hI.ok (S.mono s1)
    exact ⟨.ref p, .ref C, _, _, true, rfl, .own C, .base (.ins e1 cl ct.ha ct.hn ct.htk ct.hm), by unfold PySem.W.kitOne; simp, g _ H1 s1 (.bl true)⟩⟩
theorem evIsOD (he : EH X B e r d) (hnf : frnB X.K C (tyN d) = true) (hC : X.mg x = some (.ref C)) (hm : X.mg "isinstance" = none) (hg : Gl X "isinstance" := by rfl) (hgT : Gl X x := by rfl) (hd : (x == ("__debug__" : Str)) = false := by decide) (hst : NSt X e := by exact fun _ => rfl) (hst2 : NSt X (.Name x p') := by exact fun _ => rfl) : EV X B (.Call (.Name "isinstance" p1) [e, .Name x p'] [] pos) r (.bool false) := by
  obtain ⟨te, pp, q⟩ := he
  exact ⟨_, pe_callB call_isi hg hm (by decide +kernel) (pa_cons pp (pa_cons (pe_glob (v := .ref C) hgT hC rfl hd) pa_nil (hst2 _)) (hst _)) (he := hst _) (hpl := by rw [hst2]; rfl), fun H σ S Q g => q H σ S _ fun v H1 s1 y => ⟨v, .ref C, _, _, false, rfl, .own C, y.ty, of_decide_eq_true (He.ba hnf).2, g _ H1 s1 (.bl false)⟩⟩
/-! ### ghosts forgotten, ghosts from owned lists -/
theorem gown_subl : ∀ {a b : List (Addr × Nd)}, a.Sublist b → (gown a).Sublist (gown b)
  | _, _, .slnil => .slnil
  | _, _, .cons x h => by obtain ⟨y, n⟩ := x; rw [gown_cons]; exact (gown_subl h).trans (List.sublist_append_right _ _)
  | _, _, .cons_cons x h => by obtain ⟨y, n⟩ := x; rw [gown_cons, gown_cons]; exact List.Sublist.append (.refl _) (gown_subl h)
theorem sv_forgetG {sts : List Stmt} (iG : Nat) (hG : r[iG]? = some (.gs gl)) (hs : gl'.Sublist gl) (h : SV X B W sts (r.set iG (.gs gl')) P) : SV X B W sts r P := fun H σ E S kt => by
  obtain ⟨G, nd⟩ := S.ghosts hG
  exact h H σ E (S.gset hG (fun _ _ e _ => .inl e) (List.Sublist.nodup (gown_subl hs) nd) (fun p hp => .inl ((gown_subl hs).subset hp)) fun hh => GOk.mono hh (fun _ _ => rfl) (GOk.all fun x hx => G.memb (hs.subset hx))) kt
/-- an owned list becomes a ghost -/
theorem sv_promG {sts : List Stmt} (i iG : Nat) (hi : r[i]? = some (.ol p ds)) (hG : r[iG]? = some (.gs gl)) (h : SV X B W sts ((r.set i (.rf p)).set iG (.gs (gl ++ [(p, Nd.ls (ds.map It.da))]))) P) : SV X B W sts r P := fun H σ E S kt => by
  have ne : i ≠ iG := fun z => by subst z; rw [hi] at hG; cases hG
  have hG' : (r.set i (.rf p))[iG]? = some (.gs gl) := by rw [List.getElem?_set_ne ne]; exact hG
  obtain ⟨e1, vs, e2, ra⟩ := S.sl i _ hi
  have pin : p ∈ own r := mem_own hi (List.mem_singleton.mpr rfl)
  -- first: the list leaves its slot, p is owned no more by r
  have own1' : ∀ q, q ∈ own (r.set i (.rf p)) → q ∈ own r := fun q hq => (own_set_mem hq).elim (fun z => nomatch z) id
  have pn : p ∉ own (r.set i (.rf p)) := by
    have key : ∀ {g : List Sl} {j : Nat}, g[j]? = some (.ol p ds) → (own g).Nodup → p ∉ own (g.set j (.rf p)) := by
      intro g
      induction g with
      | nil => intro j h; simp at h
      | cons a g ih =>
        intro j h nd
        have nd : (ownOf a ++ own g).Nodup := nd
        obtain ⟨n1, n2, n3⟩ := List.nodup_append.mp nd
        cases j with
        | zero =>
          simp at h; subst h
          intro w
          have w : p ∈ own g := w
          exact n3 p (List.mem_singleton.mpr rfl) p w rfl
        | succ j =>
          have hj : g[j]? = some (.ol p ds) := by simpa using h
          intro w
          rcases List.mem_append.mp w with w | w
          · exact n3 p w p (mem_own hj (List.mem_singleton.mpr rfl)) rfl
          · exact ih hj n2 w
    exact key hi S.nd
  have nd1 : (own (r.set i (.rf p))).Nodup := own_set_nd (s := .rf p) List.nodup_nil S.nd (fun _ z => nomatch z)
  have npG : p ∉ gown gl := fun z => pn (mem_own hG' z)
  refine h H σ E ?_ kt
  have hh : Same (hid B r H) (hid B ((r.set i (.rf p)).set iG (.gs (gl ++ [(p, Nd.ls (ds.map It.da))]))) H) := hide_sub fun q hq => by
    rcases List.mem_append.mp hq with z | z
    · rcases own_set_mem z with y | y
      · have y : q ∈ gown (gl ++ [(p, Nd.ls (ds.map It.da))]) := y
        rw [gown_app] at y
        rcases List.mem_append.mp y with y | y
        · exact List.mem_append_left _ (mem_own hG y)
        · exact List.mem_append_left _ (List.mem_singleton.mp y ▸ pin)
      · exact List.mem_append_left _ (own1' q y)
    · exact List.mem_append_right _ z
  have ndG : (gown (gl ++ [(p, Nd.ls (ds.map It.da))])).Nodup := by
    rw [gown_app]
    refine List.nodup_append.mpr ⟨(S.ghosts hG).2, (by show [p].Nodup; simp), fun x hx y hy e => ?_⟩
    have hy : y = p := List.mem_singleton.mp hy
    exact npG (by rw [← hy, ← e]; exact hx)
  refine ⟨S.ex, S.old, fun q hq => ?_, ?_, by rw [List.length_set, List.length_set]; exact S.len, fun j s e => ?_, S.tb, GOk.mono hh (fun _ _ => rfl) S.gr, S.gp⟩
  · rcases own_set_mem hq with y | y
    · have y : q ∈ gown (gl ++ [(p, Nd.ls (ds.map It.da))]) := y
      rw [gown_app] at y
      rcases List.mem_append.mp y with y | y
      · exact S.new q (mem_own hG y)
      · exact S.new q (List.mem_singleton.mp y ▸ pin)
    · exact S.new q (own1' q y)
  · have key : ∀ {g : List Sl} {j : Nat}, g[j]? = some (.gs gl) → (own g).Nodup → p ∉ own g → (own (g.set j (.gs (gl ++ [(p, Nd.ls (ds.map It.da))])))).Nodup := by
      intro g
      induction g with
      | nil => intro j h; simp at h
      | cons a g ih =>
        intro j h nd np
        have nd : (ownOf a ++ own g).Nodup := nd
        obtain ⟨n1, n2, n3⟩ := List.nodup_append.mp nd
        cases j with
        | zero =>
          simp at h; subst h
          show (gown (gl ++ [(p, Nd.ls (ds.map It.da))]) ++ own g).Nodup
          refine List.nodup_append.mpr ⟨ndG, n2, fun x hx y hy e => ?_⟩
          subst e
          rw [gown_app] at hx
          rcases List.mem_append.mp hx with z | z
          · exact n3 x z x hy rfl
          · exact np (List.mem_append_right _ (List.mem_singleton.mp z ▸ hy))
        | succ j =>
          have hj : g[j]? = some (.gs gl) := by simpa using h
          refine List.nodup_append.mpr ⟨n1, ih hj n2 (fun z => np (List.mem_append_right _ z)), fun x hx y hy e => ?_⟩
          subst e
          rcases own_set_mem hy with z | z
          · have z : x ∈ gown (gl ++ [(p, Nd.ls (ds.map It.da))]) := z
            rw [gown_app] at z
            rcases List.mem_append.mp z with w | w
            · exact n3 x hx x (mem_own hj w) rfl
            · exact np (List.mem_append_left _ (List.mem_singleton.mp w ▸ hx))
          · exact n3 x hx x z rfl
    exact key hG' nd1 pn
  · by_cases hj : iG = j
    · subst hj
      rw [List.getElem?_set_self (by rw [List.length_set]; exact (List.getElem?_eq_some_iff.mp hG).1)] at e
      cases e
      exact GOk.app (GOk.mono hh (fun _ _ => rfl) (S.ghosts hG).1) ⟨⟨vs, e2, RpA.its (ra.mono hh)⟩, trivial⟩
    · rw [List.getElem?_set_ne hj] at e
      by_cases hi2 : i = j
      · subst hi2
        rw [List.getElem?_set_self (List.getElem?_eq_some_iff.mp hi).1] at e
        cases e
        exact e1
      · rw [List.getElem?_set_ne hi2] at e
        exact (S.sl j s e).mono hh fun _ _ => rfl
end
end Tp

namespace Tp
open PySem L2
/-! ### statements in two parts: what the first leads to -/
theorem execs_app (env : Env) (b : List Stmt) : ∀ (a : List Stmt), execs (a ++ b) env = (execs a env >>= fun f => match f with | .next => execs b env | f => pure f)
  | [] => by show execs b env = _; rw [show execs [] env = pure .next from rfl, pure_bind]
  | s :: a => by
    show execs (s :: (a ++ b)) env = _
    rw [execs_cons, execs_cons, bind_assoc]
    refine congrArg _ (funext fun f => ?_)
    cases f with
    | next => exact execs_app env b a
    | ret v => exact (pure_bind _ _).symm
    | brk => exact (pure_bind _ _).symm
    | cont => exact (pure_bind _ _).symm
section
variable {X : Cx} {B : Bx} {W : WX} {P : Po} {r : List Sl} {sts a b : List Stmt}
theorem sv_seq (R : List Sl → Prop) (h1 : SV X B W a r (P.then R)) (h2 : ∀ r', R r' → SV X B W b r' P) : SV X B W (a ++ b) r P := fun H σ E S kt => by
  refine ⟨fun E σ H => wS X a { E with nx := wS X b E } σ H, ⟨fun pins s σ H D I h => ?_⟩, h1 H σ _ S (kt.then fun r' σ' H' S' hR => h2 r' hR H' σ' E S' kt)⟩
  rw [execs_app]
  refine wpAny_bind (thn (wS_ok.run pins s σ H { D with nx := wS X b D } I h) fun f s1 q => ?_)
  cases f with
  | next =>
    obtain ⟨σ', H', I', q⟩ := q
    exact wS_ok.run pins s1 σ' H' D I' q
  | ret v => exact wpAny_pure q
  | brk => exact wpAny_pure q
  | cont => exact wpAny_pure q
theorem sv_seqN (n : Nat) (R : List Sl → Prop) (h1 : SV X B W (sts.take n) r (P.then R)) (h2 : ∀ r', R r' → SV X B W (sts.drop n) r' P) : SV X B W sts r P := by
  rw [← List.take_append_drop n sts]
  exact sv_seq R h1 h2
end
end Tp

namespace Tp
open PySem L2
/-! ### defs and makers with keywords; objects that live in one expression -/
section
variable {P : Program} {w : World} {T : List Addr} {K : PySem.W.Frag} {mg : Str → Option Value} {base : Heap} {x : Str} {f C : Addr} {fd : FuncData} {ps ks : List Str} {k n : Nat} {c : CtM} {dvs : List V} {dus : List Value} {dd : List D}
theorem calM_of (F : FnOk P w K mg base (L2.CX P w) k f fd ps (spM T K c)) (hm : mg x = some (.ref f)) (hk : PySem.W.keepIn K (.ref f) = true) (kb : KBn K fd ps n ks (fun us ws => us ++ (ws ++ dus)) (fun vs zs => vs ++ (zs ++ dvs))) (hd : RpA K (fun _ => none) dvs dd) : CalM P w T K mg base x k c n ks (fun a b => a ++ (b ++ dd.map It.da)) :=
  ⟨f, fd, ps, _, _, F, hm, hk, kb, fun Hh vs zs its iks _ _ A B => A.app (B.app (RpA.its (hd.mono fun _ _ e => by cases e)))⟩
theorem makM_of (F : FnOk P w K mg base (L2.CX P w) k f fd ps (spM T K c)) (hM : Mk K C f) (hm : mg x = some (.ref C)) (kb : KBn K fd ps (n + 1) ks (fun us ws => us ++ (ws ++ dus)) (fun vs zs => vs ++ (zs ++ dvs))) (hd : RpA K (fun _ => none) dvs dd) : MakM P w T K mg base x C k c n ks (fun a b => a ++ (b ++ dd.map It.da)) :=
  ⟨f, fd, ps, _, _, F, hM, hm, kb, fun Hh vs zs its iks _ _ A B => A.app (B.app (RpA.its (hd.mono fun _ _ e => by cases e)))⟩
theorem binds_kbn (hb : Binds K fd ps []) (hn : n = ps.length) : KBn K fd ps n [] (fun us ws => us ++ (ws ++ [])) (fun vs zs => vs ++ (zs ++ [])) :=
  ⟨fun s us ws X h1 h2 => (by
    cases ws with
    | nil => exact hb s us X (by rw [List.append_nil, h1]; exact hn)
    | cons _ _ => exact absurd h2 (by simp)), fun {_ _ _ _} r1 r2 => r1.append (r2.append .nil)⟩
end
section
variable {X : Cx} {B : Bx} {W : WX} {P : Po} {r q : List Sl} {e a b o tg : Expr} {es : List Expr} {kws : List Keyword} {rest body orelse : List Stmt} {d : D} {ds : List D} {pos pos' p1 p' apos : Pos} {k kk n : Nat} {x f m : Str} {ks : List Str} {gl gl' g1 g2 gr : List (Addr × Nd)} {p C dx C2 dx2 l : Addr} {fs fs2 : List (Str × It)} {t : It} {its iks : List It} {c : CtM} {z : Addr} {gI : List It → List It → List It} {Po2 : Rs → List (Addr × Nd) → Prop}
/-- a new object (with what hangs on it) -/
def EOr (X : Cx) (B : Bx) (e : Expr) (r : List Sl) (Pn : Addr → List (Addr × Nd) → Prop) : Prop :=
  ∃ te, PE X e te ∧ ∀ H σ, SOk X.K B r H σ → ∀ Q : VK, (∀ a g' H', Same H H' → (∀ p ∈ gown g', H p = none) → GOk X.K (hide H' (gown g' ++ (own r ++ B.ps))) H' g' → Pn a g' → Q (.ref a) H') → te σ H Q
theorem eorCallM {Pn : Addr → List (Addr × Nd) → Prop} (g : Go X W kk) (M : CalM X.prog X.w B.ts X.K X.mg X.base x k c n ks gI) (hk : k ≤ kk) (ha : EAi X B (e :: es) r its) (hkw : EKi X B kws r iks) (hr : ∀ x ∈ gr, InG B r x) (hc : c (gI its iks) gr [] (fun s g' => ∃ a, s = .rf a ∧ Pn a g') (fun _ _ => False)) (hn : its.length = n := by rfl) (hn2 : iks.length = ks.length := by rfl)
    (hg : Gl X x := by rfl) (hall : (backToKw pos (keywordEach kws X.env)).all (·.1.isSome) = true := by rfl) (hks : (backToKw pos (keywordEach kws X.env)).filterMap (·.1) = ks := by rfl)
    (hdb : (x == ("__debug__" : Str)) = false := by decide) (he : starEach (e :: es) X.env = (false, eval e X.env) :: starEach es X.env := by rfl)
    (hpl : ((backTo pos (starEach (e :: es) X.env)).any (·.1) || (backToKw pos (keywordEach kws X.env)).any (·.1.isNone)) = false := by rfl) : EOr X B (.Call (.Name x p1) (e :: es) kws pos) r Pn := by
  obtain ⟨f, fd, ps, gg, gV, F, hm, hkp, hb, hI⟩ := M
  obtain ⟨ta, pa, ka⟩ := ha
  obtain ⟨tk, pk, kk'⟩ := hkw
  refine ⟨_, pe_callNS F (g.hr.mono hk) hg hm hkp hb (fun σ => passAt g.tk σ) pa pk hall hks hdb he hpl, fun H σ S Q q => ka H σ S _ fun vs H1 s1 y => kk' H1 σ (S.mono s1) _ fun zs H2 s2 y2 => ?_⟩
  have S2 := (S.mono s1).mono s2
  refine ⟨y.len.trans hn, y2.len.trans hn2, own r ++ B.ps, gr, [], gI its iks, _, _, S2.tb, S2.dom, List.nodup_nil, (fun _ h => nomatch h), fun p hp => ?_, trivial, GOk.all fun x hx => (hr x hx).ok S2, hI _ _ _ _ _ hn hn2 (y.mono (hide_mono s2)) y2, hc, fun s v g' H' nw G ro ho => ?_, fun C g' H' _ _ hx => hx.elim⟩
  · obtain ⟨x, h1, h2⟩ := gown_in hp
    exact (hr x h1).own S2 p h2
  · obtain ⟨a, rfl, hP⟩ := ho
    cases ro
    have s3 : Same H2 H' := fun a o e => nw.k a o e (List.not_mem_nil)
    refine q a g' H' ((s1.trans s2).trans s3) (fun p hp => ?_) G hP
    have h2 : H2 p = none := (nw.nw p hp).elim (fun z => nomatch z) id
    cases h0 : H p with
    | none => rfl
    | some u =>
      obtain ⟨w, ew⟩ := ((s1.trans s2) p u h0).is
      rw [h2] at ew; cases ew
/-- o == f(..), f makes an object -/
theorem evOwnEqN {w : Bool} {Pn : Addr → List (Addr × Nd) → Prop} (g : Go X W kk) (M : MthM X.prog X.w B.ts X.K X.mg X.base C "__eq__" k c) (hk : k ≤ kk) (ha : ER X B a r p) (hI : InG B r (p, .ob C dx fs)) (hb : EOr X B b r Pn) (cl : Cls X.K C) (ct : ClsT X.K C)
    (hc : ∀ z g', Pn z g' → ∃ gr dx2 fs2, (∀ x ∈ gr, x ∈ g' ∨ InG B r x) ∧ (z, Nd.ob C dx2 fs2) ∈ g' ∧ c [.rf p, .rf z] gr [] (fun s _ => s = .da (.bool w)) (fun _ _ => False)) (hmk : behindInMarks .Eq b = false := by first | exact nomark _ | rfl) : EV X B (.Compare a [.Eq] [b] pos) r (.bool w) := by
  obtain ⟨f, fd, ps, F, hm, hb'⟩ := M
  obtain ⟨ta, pa, ka⟩ := ha
  obtain ⟨tb, pb, kb⟩ := hb
  refine ⟨_, pe_own F hm hb' (g.hr.mono hk) (fun σ => passAt g.tk σ) pa pb hmk, fun H σ S Q q => ka H σ S _ fun H1 s1 => kb H1 σ (S.mono s1) _ fun z g' H2 s2 fr G hP => ?_⟩
  have S1 := S.mono s1
  have S2 := S1.mono s2
  have hh : Same (hid B r H1) (hide H2 (gown g' ++ (own r ++ B.ps))) := fun q u eq => by
    have eq : hide H1 (own r ++ B.ps) q = some u := eq
    by_cases hq : q ∈ own r ++ B.ps
    · rw [hide_in hq] at eq; cases eq
    · rw [hide_out hq] at eq
      rw [hide_out fun z => (List.mem_append.mp z).elim (fun y => by rw [fr q y] at eq; cases eq) hq]
      exact s2 q u eq
  have old : ∀ x, InG B r x → NdOk X.K (hide H2 (gown g' ++ (own r ++ B.ps))) H2 x.1 x.2 := fun x hx => by
    have h1 : GOk X.K (hid B r H1) H1 [x] := ⟨hx.ok S1, trivial⟩
    refine (GOk.mono hh (fun q hq => ?_) h1).1
    obtain ⟨u, eu, nt⟩ := GOk.there h1 hq
    rw [eu]; exact s2.k eu nt
  obtain ⟨gr, dx2, fs2, hgr, hz, hcc⟩ := hc z g' hP
  obtain ⟨vs, e1, e2, y⟩ := old _ hI
  obtain ⟨vs2, e3, e4, y2⟩ := G.memb hz
  refine ⟨p, dx, vs, .ref C, rfl, e1, .base (.ins e3 cl ct.ha ct.hn ct.htk ct.hm), by unfold PySem.W.notFirst; simp, ?_⟩
  refine ⟨gown g' ++ (own r ++ B.ps), gr, [], _, _, _, S2.tb, fun q hq => ?_, List.nodup_nil, (fun _ h => nomatch h), fun q hq => ?_, trivial, GOk.all fun x hx => (hgr x hx).elim (fun y => G.memb y) (old x), .cons (i := .rf p) rfl (.cons (i := .rf z) rfl .nil), hcc, fun s v g2 H' nw _ ro ho => ?_, fun _ _ _ _ _ hx => hx.elim⟩
  · rcases List.mem_append.mp hq with w | w
    · obtain ⟨u, eu, _⟩ := GOk.there G w
      rw [eu]; intro z; cases z
    · exact S2.dom q w
  · obtain ⟨x, h1, h2⟩ := gown_in hq
    rcases hgr x h1 with w | w
    · exact List.mem_append_left _ (gown_of w h2)
    · exact List.mem_append_right _ (w.own S1 q h2)
  · subst ho
    cases ro
    have s3 : Same H2 H' := fun a o e => nw.k a o e (List.not_mem_nil)
    exact ⟨w, rfl, q _ H' ((s1.trans s2).trans s3) (.bl w)⟩
end
end Tp

namespace LiK
open PySem PySem.Spec PyProof.Rows L2
def tListKeys (te : TE) : TE := fun σ H Q => te σ H fun x H1 => ∃ (d : Addr) (kvs : List (Key × V)), x = .ref d ∧ H1 d = some (.dK kvs) ∧ ∀ l, H1 l = none → Q (.ref l) (upd H1 l (.lst (kvs.map fun q => kV q.1)))
section
variable {X : Cx} {e : Expr} {te : TE} {p apos cpos pos : Pos}
theorem keys_laid {pins : List (Addr × Obj)} {σ : L2.St} {H : Hp} {s : Shared} {h' : Heap} {tk : Nat} {kvs : List (Key × V)} {acc : Array Value} {c : Nat} (I : Inv X pins σ H s) (hz : kvs.length ≤ sizeLine)
    (hk : ∀ b o, s.heap.get? b = some o → h'.get? b = some o) (hS : h'.get? s.heap.objs.size = some { cls := .type "list", dict := none, data := .seq acc c, slots := #[] }) (hv : Vals (kvs.map fun q => kV q.1) acc.toList) :
    H s.heap.objs.size = none ∧ Inv X pins σ (upd H s.heap.objs.size (.lst (kvs.map fun q => kV q.1))) { s with heap := h', toks := tk } := by
  have newS : H s.heap.objs.size = none := I.hok.fresh (Nat.le_refl _)
  have low : ∀ b o, s.heap.get? b = some o → b ≠ s.heap.objs.size := fun b o e => Nat.ne_of_lt (Heap.lt_size e)
  have kp : ∀ b u, H b = some u → (upd H s.heap.objs.size (.lst (kvs.map fun q => kV q.1))) b = some u := fun b u e => by
    rw [upd_ne (fun z => by rw [z, newS] at e; cases e)]
    exact e
  refine ⟨newS, I.call' (ch := []) rfl ⟨fun b o q _ _ _ => hk b o q, fun b o q _ _ _ => ⟨o.slots, hk b o q⟩, fun b o q n _ => ?_, fun b o q _ => ⟨o, hk b o q⟩, fun b xs q => kp b _ q, fun b o u q => kp b _ q, fun b ps q => ⟨#[], by rw [kp b _ q]; simp⟩⟩ (fun b u q => ?_) I.bare fun b z => by simp at z⟩
  · rw [upd_ne (low b o q)]
    exact n
  · by_cases hb2 : b = s.heap.objs.size
    · rw [hb2] at q ⊢
      rw [upd_same] at q
      cases q
      refine ⟨by rw [List.length_map]; exact hz, acc.toList, c, hv, ?_⟩
      rw [Array.toArray_toList]
      exact hS
    · rw [upd_ne hb2] at q
      exact (I.hok b u q).stay (fun d v _ y => hk d v y) (fun d y => kp d _ y) fun d xs y => kp d _ y
/-- list(e.keys()) -/
theorem pe_listKeys (hc : X.calm = true) (he : PE X e te) (hg : Gl X "list") (hm : X.mg "list" = none) (hv : bootBuiltins "list" = some (.type "list")) (hbase : attributeBase e "keys" X.env (eval e X.env) = eval e X.env := by rfl) (hline : (apos.endLine == cpos.line) = true := by rfl)
    (hs : starEach [.Call (.Attribute e "keys" apos) [] [] cpos] X.env = (false, eval (.Call (.Attribute e "keys" apos) [] [] cpos) X.env) :: starEach [] X.env := by rfl) :
    PE X (.Call (.Name "list" p) [.Call (.Attribute e "keys" apos) [] [] cpos] [] pos) (tListKeys te) := by
  refine ⟨fun pins s σ H Q I hq => ?_⟩
  refine wpAny_Call_Name_kw (ld_blt I hg hm hv ?_)
  refine PyProof.Rows.callWith_type1 ?_ hs rfl
  rw [hs]
  show wpAny _ _ (spliced ((false, eval (.Call (.Attribute e "keys" apos) [] [] cpos) X.env) :: backTo pos (starEach [] X.env))) _ _ s
  refine Calls.spliced_cons ?_
  refine wpAny_Call_method (T := "dict") (id := "dict.keys") hbase rfl hline F.plainAttrs_dict F.slot_dict_keys F.type_dict_keys (thn (he.run pins s σ H _ I hq) fun u s1 ⟨x, H1, I1, rx, d, kvs, ex, hd, q⟩ => ?_)
  subst ex
  obtain rfl : u = Value.ref d := rx
  obtain ⟨hz, hs0, vs, kv, hdo⟩ := I1.hok d _ hd
  obtain ⟨ep, hat⟩ := hdo.dictAt
  have lk : kvs.length = vs.length := Paired.length kv
  have I2 : Inv X pins σ H1 { s1 with heap := s1.heap.push { cls := .type "dict_keys", data := .fields #[.ref d] } } := I1.kept (t' := s1.toks) fun b ob q => Heap.get?_push_of_some _ q
  refine ⟨hdo.typeIs, hdo.mapOf.noDict, ?_⟩
  show wpAny _ _ (callWith cpos (.builtin "dict.keys") [.ref d] [] []) _ X.xe s1
  refine method_meetsIn F.slot_dict_keys F.entry_dict_keys rfl (PySem.evalArgs_none ⟨rfl, hdo.typeIs, F.args_dict_keys_1 _, _, PySem.W.kdl_meets_keys (mixKind X.prog X.w) d hs0, ⟨vs, hdo⟩, ?_⟩)
  refine Calls.spliced_nil ?_
  refine PySem.W.kdl_call (n := vs.length) (PySem.W.kdl_keys (knd := mixKind X.prog X.w) (kvs := vs) (ep := ep) (r := s1.heap.objs.size) (d := d)) (I1.ok.hd hc) ⟨⟨_, Heap.get?_push_size _ rfl, rfl, rfl⟩, hat.push _⟩ (by omega) fun h' tk acc c hk hS hacc => ?_
  have hvals : Vals (kvs.map fun q => kV q.1) acc.toList := by
    refine vals_of_idx _ _ (by rw [List.length_map, lk, Array.length_toList]; exact hacc.1) fun j u hu => ?_
    obtain ⟨k, x, f1, f3⟩ := hacc.2 j u (by rw [← Array.getElem?_toList]; exact hu)
    have hj : j < kvs.length := by rw [lk]; exact (List.getElem?_eq_some_iff.mp f1).1
    have e2 : kvs[j]? = some kvs[j] := List.getElem?_eq_getElem hj
    obtain ⟨qv, g1, g2, g3⟩ := LiI.paired_get kv e2
    rw [f1] at g1
    cases g1
    refine ⟨kV kvs[j].1, by rw [List.getElem?_map, e2]; rfl, ?_⟩
    rw [g2]
    exact relV_key (show keyIs k u = true from f3)
  obtain ⟨k1, J⟩ := keys_laid (tk := tk) I2 hz hk hS hvals
  exact ⟨.ref _, _, J, rfl, q _ k1⟩
end
end LiK
namespace Tp
open PySem L2
section
variable {X : Cx} {B : Bx} {W : WX} {r : List Sl} {o : Expr} {pos : Pos} {kk : Nat} {kvs : List (Key × D)}
def keysD (kvs : List (Key × D)) : List D := kvs.map fun x => kD x.1
theorem rpa_keys {K : PySem.W.Frag} {H Hh : Hp} : ∀ {us : List (Key × V)} {kvs : List (Key × D)}, RpK K H us kvs → RpA K Hh (us.map fun q => L2.kV q.1) (keysD kvs)
  | _, _, .nil => .nil
  | _, _, .cons h a => .cons (rp_key _) (rpa_keys a)
theorem evKeys {pl apos cpos : Pos} (g : Go X W kk) (ho : EK X B o r kvs) (hm : X.mg "list" = none) (hg : Gl X "list" := by rfl) (hbase : attributeBase o "keys" X.env (eval o X.env) = eval o X.env := by rfl) (hline : (apos.endLine == cpos.line) = true := by rfl)
    (hs : starEach [.Call (.Attribute o "keys" apos) [] [] cpos] X.env = (false, eval (.Call (.Attribute o "keys" apos) [] [] cpos) X.env) :: starEach [] X.env := by rfl) : EV X B (.Call (.Name "list" pl) [.Call (.Attribute o "keys" apos) [] [] cpos] [] pos) r (.list (keysD kvs)) := by
  obtain ⟨t, pt, kp⟩ := ho
  refine ⟨_, LiK.pe_listKeys g.calm pt hg hm (by decide +kernel) hbase hline hs, fun H σ S Q q => kp H σ S _ fun a us H1 s1 y z => ⟨a, us, rfl, y, fun l hl => ?_⟩⟩
  exact q _ _ (s1.trans (same_new hl)) (.lst (SqL.of (hide_new hl (S.mono s1).dom)) (rpa_keys z))
end
end Tp

namespace OwN
open PySem PySem.Spec PyProof.Rows PySem.SeqAt
section
variable {M : Model} {prog : Program} {w : World} {A : Around} {E : Value → Shared → Prop} {s : Shared} {K : PySem.W.Frag} {x C f L : Addr} {ox : Obj} {od : Option Obj} {b tb : Value} {h₀ : Heap} {m : Str → Option Value}
theorem entry_ne {Q : Fin → Shared → Prop} (hu : A.units < cLine) (h : wpAny M A (callSpecialIfBound? (.ref x) "__eq__" [b]) (fun v s' => ∃ k, v = some (.bool k) ∧ Q (.done (.ret (.bool (!k)))) s') E s) : wpAny M A (Builtin.«object.__ne__» ⟨[.ref x, b], []⟩) Q E s := by
  unfold Builtin.«object.__ne__»
  repeat (first | with_reducible refine wpAny_bind (wpAny_mono h (fun v s' hv => ?_) fun _ _ e => e) | with_reducible refine wpAny_mono h (fun v s' hv => ?_) fun _ _ e => e | with_reducible refine wpAny_bind (wpAny_cRoomFor hu ?_) | with_reducible refine wpAny_cRoomFor hu ?_ | wp_step)
  obtain ⟨k, rfl, q⟩ := hv
  exact wpAny_bind (wpAny_truthy_bool (wpAny_pure q))
theorem call_objNe {Q : Value → Shared → Prop} (hu1 : A.in1.units < cLine) (X : K.In s.heap) (I : PySem.W.InstAt s.heap x ox C od) (hm : PySem.W.mroIn K C (.type "object") = some true)
    (h : wpAny (model prog w) A.in1 (callSpecialIfBound? (.ref x) "__eq__" [b]) (fun v s' => ∃ k, v = some (.bool k) ∧ Q (.bool (!k)) s') E s) : wpAny (model prog w) A (call (.builtin "object.__ne__") [.ref x, b]) Q E s :=
  wpAny_call (codeAny_call_builtin F.cmp_object.ne.plain F.cmpEntry_ne (PySem.W.check_slot F.cmpKind_ne F.cmpSplit_ne (I.type.andThen (PySem.W.looks_mroIn X hm)) (F.cmpArgs_ne _ _) (entry_ne hu1 h)))
theorem ifBound_objNe {args : List Value} {Q : Option Value → Shared → Prop} (X : K.In s.heap) (I : PySem.W.InstAt s.heap x ox C od) (hs : PySem.W.findIn K (.ref C) "__ne__" = some (some (.builtin "object.__ne__")))
    (h : wpAny M A (call (.builtin "object.__ne__") (.ref x :: args)) (fun v => Q (some v)) E s) : wpAny M A (callSpecialIfBound? (.ref x) "__ne__" args) Q E s := by
  simp only [callSpecialIfBound?, bindSpecialIfBound?]
  refine wpAny_holding (wpAny_bind (wpAny_bind (wpAny_bind (I.type.here ((PySem.W.looks_findIn X hs).here ?_)))))
  refine wpAny_bind (wpAny_askSetting (wpAny_ite ?_))
  have fin : wpAny M A (call (.builtin "object.__ne__") ([.ref x] ++ args) >>= fun v => pure (some v)) Q E s := wpAny_bind (wpAny_mono h (fun v s' h' => wpAny_pure h') fun _ _ h' => h')
  split
  · exact wpAny_bind (wpAny_of_eq (F.cmp_object.ne.bind _) (wpAny_pure (by exact fin)))
  · exact wpAny_tryCatch (wpAny_bind (wpAny_of_eq (F.cmp_object.ne.bind _) (wpAny_pure (by exact fin))))
/-- != by an own == -/
theorem cmp_ne {Q : Value → Shared → Prop} (hu : A.units < cLine) (hu1 : A.in1.units < cLine) (X : K.In s.heap) (I : PySem.W.InstAt s.heap x ox C od) (hb : PySem.W.Looks (model prog w) s.heap (typeOf b) tb) (hn : PySem.W.notFirst K C tb = true) (hm : PySem.W.mroIn K C (.type "object") = some true)
    (hne : PySem.W.findIn K (.ref C) "__ne__" = some (some (.builtin "object.__ne__"))) (hs : PySem.W.findIn K (.ref C) "__eq__" = some (some (.ref f))) (hf : PySem.W.isFn K (.ref f) = true)
    (h : wpAny (model prog w) A.in1 (call (.ref f) [.ref x, b]) (fun v s' => ∃ k, v = .bool k ∧ Q (.bool (!k)) s') E s) : wpAny (model prog w) A (richCompare .NotEq (.ref x) b) Q E s := by
  have one : wpAny (model prog w) A (tryCompare (.ref x) (cmpInfo .NotEq).2.1 b) (fun r s' => ∃ v, r = some v ∧ Q v s') E s := by
    unfold tryCompare
    refine wpAny_bind (ifBound_objNe X I hne (call_objNe hu1 X I hm (PySem.W.ifBound_K X I hs hf (wpAny_mono h (fun v s' hv => ?_) fun _ _ e => e))))
    obtain ⟨k, rfl, q⟩ := hv
    exact ⟨k, rfl, wpAny_pure ⟨_, rfl, q⟩⟩
  unfold richCompare
  simp only [oneThing_ref]
  refine wpAny_holding (wpAny_bind (wpAny_cRoomFor hu ?_))
  refine wpAny_bind (I.type.here (wpAny_bind (hb.here ?_)))
  split
  · rename_i q
    have e : PySem.W.subIn K tb (.ref C) = some false := by
      rcases Bool.or_eq_true_iff.mp hn with e | e
      · rw [beq_iff_eq.mp e] at q; simp at q
      · exact beq_iff_eq.mp e
    refine wpAny_bind ((PySem.W.looks_subIn X e).here ?_)
    simp only [Bool.false_eq_true, if_false]
    refine wpAny_bind (wpAny_mono one (fun r s' z => ?_) fun _ _ e => e)
    obtain ⟨v, rfl, hq⟩ := z
    exact wpAny_pure hq
  · refine wpAny_bind (wpAny_pure ?_)
    simp only [Bool.false_eq_true, if_false]
    refine wpAny_bind (wpAny_mono one (fun r s' z => ?_) fun _ _ e => e)
    obtain ⟨v, rfl, hq⟩ := z
    exact wpAny_pure hq
end
end OwN
namespace Tp
open PySem L2
section
variable {X : Cx} {CX : CXT} {n : Nat} {C f : Addr} {fd : FuncData} {ps : List Str} {sp : Sp}
/-- the class has its != from object -/
structure NeT (K : PySem.W.Frag) (C : Addr) : Prop where
  ne : PySem.W.findIn K (.ref C) "__ne__" = some (some (.builtin "object.__ne__"))
def neTB (K : PySem.W.Frag) (C : Addr) : Bool := He.eqO (PySem.W.findIn K (.ref C) "__ne__") (some (some (.builtin "object.__ne__")))
theorem neTB_ok {K : PySem.W.Frag} {C : Addr} (h : neTB K C = true) : NeT K C := ⟨He.eqO_ok h⟩
theorem op_ownNe {pins : List (Addr × Obj)} {s : Shared} {σ : St} {H : Hp} {x y : V} {v u : Value} {Q : VK} (F : FnOk X.prog X.w X.K X.mg X.base CX n f fd ps sp) (hm : Meth X.K C "__eq__" f) (hb : Binds X.K fd ps []) (hr : Room (n + 1) X.A) (hx : Passes CX X.nox (fun _ _ _ => False)) (ct : ClsT X.K C) (hne : NeT X.K C) (I : Inv X pins σ H s) (rx : RelV x v) (ry : RelV y u)
    (h : rOwn X.K C sp (fun _ _ _ => False) x y H fun v H' => ∃ b, v = .bl b ∧ Q (.bl (!b)) H') : wpAny (model X.prog X.w) X.A (compareOp .NotEq v u) (EP X pins σ Q) X.xe s := by
  obtain ⟨a, dx, fs, t, rfl, ea, ty, nf, q⟩ := h
  cases rx
  obtain ⟨P, Z, pz, _⟩ := kit_of I ry ty
  obtain ⟨mA, J, _⟩ := ins_get I.hok ea
  obtain ⟨od, J, _⟩ := J.look
  show wpAny (model X.prog X.w) X.A (richCompare .NotEq (.ref a) u) (EP X pins σ Q) X.xe s
  have hl : [Value.ref a, u].length = ps.length := by
    rw [← F.len _ _ _ _ q]; rfl
  refine OwN.cmp_ne (tb := t) (hr.mono (Nat.le_succ n)).units0 (hr.in1).units0 I.kIn J (Z.ty _ _ I.kIn pz) nf ct.hm hne.ne hm.at_ hm.fn (wpAny_call ?_)
  refine codeAny_mono (F.run X.A.in1 X.stack s H ⟨[.ref a, u], []⟩ [.ref a, u] [.ref a, y] _ (fun _ _ _ => False) hr.in1 I.env0.in1 (by
    have := hb s [.ref a, u] I.kIn (by simpa using hl)
    simpa using this) (.cons rfl (.cons ry .nil)) q) fun r s' hq => ?_
  cases r with
  | error er => exact False.elim (hx pins σ H s er s' (I.wish _) hq)
  | ok fl =>
    cases fl with
    | ret w =>
      obtain ⟨z, H', I', rz, b, ez, b2, e2, hq2⟩ := I.after hq
      subst ez
      cases e2
      cases rz
      exact ⟨b, rfl, .bl (!b), H', I', rfl, hq2⟩
    | next => exact False.elim hq
    | brk => exact False.elim hq
    | cont => exact False.elim hq
variable {a b : Expr} {ta tb : TE} {pos : Pos}
def tOwnNe (K : PySem.W.Frag) (C : Addr) (sp : Sp) (ta tb : TE) : TE := fun σ H Q => ta σ H fun x H1 => tb σ H1 fun y H2 => rOwn K C sp (fun _ _ _ => False) x y H2 fun v H' => ∃ b, v = .bl b ∧ Q (.bl (!b)) H'
theorem pe_ownNe (F : FnOk X.prog X.w X.K X.mg X.base CX n f fd ps sp) (hm : Meth X.K C "__eq__" f) (hb : Binds X.K fd ps []) (hr : Room (n + 1) X.A) (hx : Passes CX X.nox (fun _ _ _ => False)) (ct : ClsT X.K C) (hne : NeT X.K C) (pa : PE X a ta) (pb : PE X b tb) (hmk : behindInMarks .NotEq b = false) : PE X (.Compare a [.NotEq] [b] pos) (tOwnNe X.K C sp ta tb) := by
  refine ⟨fun pins s σ H Q I h => ?_⟩
  exact wpAny_Compare1 (thn (pa.run pins s σ H _ I h) fun v s1 ⟨x, H1, I1, r1, q1⟩ => thn (pb.run pins s1 σ H1 _ I1 q1) fun u s2 ⟨y, H2, I2, r2, q2⟩ => op_ownNe F hm hb hr hx ct hne I2 r1 r2 q2) hmk
end
section
variable {X : Cx} {B : Bx} {W : WX} {r : List Sl} {a b : Expr} {pos : Pos} {k kk : Nat} {gr : List (Addr × Nd)} {p C dx dx2 z : Addr} {fs fs2 : List (Str × It)} {c : CtM}
theorem evOwnNe {w : Bool} (g : Go X W kk) (M : MthM X.prog X.w B.ts X.K X.mg X.base C "__eq__" k c) (hk : k + 1 ≤ kk) (ha : ER X B a r p) (hI : InG B r (p, .ob C dx fs)) (hb : ER X B b r z) (hI2 : InG B r (z, .ob C dx2 fs2)) (cl : Cls X.K C) (ct : ClsT X.K C) (hne : NeT X.K C) (hr : ∀ x ∈ gr, InG B r x) (hc : c [.rf p, .rf z] gr [] (fun s _ => s = .da (.bool w)) (fun _ _ => False)) (hmk : behindInMarks .NotEq b = false := by first | exact nomark _ | rfl) : EV X B (.Compare a [.NotEq] [b] pos) r (.bool (!w)) := by
  obtain ⟨f, fd, ps, F, hm, hb'⟩ := M
  obtain ⟨ta, pa, ka⟩ := ha
  obtain ⟨tb, pb, kb⟩ := hb
  refine ⟨_, pe_ownNe F hm hb' (g.hr.mono hk) passL ct hne pa pb hmk, fun H σ S Q q => ka H σ S _ fun H1 s1 => kb H1 σ (S.mono s1) _ fun H2 s2 => ?_⟩
  have S2 := (S.mono s1).mono s2
  obtain ⟨vs, e1, e2, y⟩ := hI.ok S2
  obtain ⟨vs2, e3, e4, y2⟩ := hI2.ok S2
  refine ⟨p, dx, vs, .ref C, rfl, e1, .base (.ins e3 cl ct.ha ct.hn ct.htk ct.hm), by unfold PySem.W.notFirst; simp, ?_⟩
  refine spM_read S2 hr (.cons (i := .rf p) rfl (.cons (i := .rf z) rfl .nil)) hc (fun s v g' H' zz ro ho => ?_) fun _ _ _ _ hx => hx.elim
  subst ho
  cases ro
  exact ⟨w, rfl, w, rfl, q _ H' ((s1.trans s2).trans zz) (.bl (!w))⟩
theorem evOwnNeN {w : Bool} {Pn : Addr → List (Addr × Nd) → Prop} (g : Go X W kk) (M : MthM X.prog X.w B.ts X.K X.mg X.base C "__eq__" k c) (hk : k + 1 ≤ kk) (ha : ER X B a r p) (hI : InG B r (p, .ob C dx fs)) (hb : EOr X B b r Pn) (cl : Cls X.K C) (ct : ClsT X.K C) (hne : NeT X.K C)
    (hc : ∀ z g', Pn z g' → ∃ gr dx2 fs2, (∀ x ∈ gr, x ∈ g' ∨ InG B r x) ∧ (z, Nd.ob C dx2 fs2) ∈ g' ∧ c [.rf p, .rf z] gr [] (fun s _ => s = .da (.bool w)) (fun _ _ => False)) (hmk : behindInMarks .NotEq b = false := by first | exact nomark _ | rfl) : EV X B (.Compare a [.NotEq] [b] pos) r (.bool (!w)) := by
  obtain ⟨f, fd, ps, F, hm, hb'⟩ := M
  obtain ⟨ta, pa, ka⟩ := ha
  obtain ⟨tb, pb, kb⟩ := hb
  refine ⟨_, pe_ownNe F hm hb' (g.hr.mono hk) passL ct hne pa pb hmk, fun H σ S Q q => ka H σ S _ fun H1 s1 => kb H1 σ (S.mono s1) _ fun z g' H2 s2 fr G hP => ?_⟩
  have S1 := S.mono s1
  have S2 := S1.mono s2
  have hh : Same (hid B r H1) (hide H2 (gown g' ++ (own r ++ B.ps))) := fun q u eq => by
    have eq : hide H1 (own r ++ B.ps) q = some u := eq
    by_cases hq : q ∈ own r ++ B.ps
    · rw [hide_in hq] at eq; cases eq
    · rw [hide_out hq] at eq
      rw [hide_out fun z => (List.mem_append.mp z).elim (fun y => by rw [fr q y] at eq; cases eq) hq]
      exact s2 q u eq
  have old : ∀ x, InG B r x → NdOk X.K (hide H2 (gown g' ++ (own r ++ B.ps))) H2 x.1 x.2 := fun x hx => by
    have h1 : GOk X.K (hid B r H1) H1 [x] := ⟨hx.ok S1, trivial⟩
    refine (GOk.mono hh (fun q hq => ?_) h1).1
    obtain ⟨u, eu, nt⟩ := GOk.there h1 hq
    rw [eu]; exact s2.k eu nt
  obtain ⟨gr, dx2, fs2, hgr, hz, hcc⟩ := hc z g' hP
  obtain ⟨vs, e1, e2, y⟩ := old _ hI
  obtain ⟨vs2, e3, e4, y2⟩ := G.memb hz
  refine ⟨p, dx, vs, .ref C, rfl, e1, .base (.ins e3 cl ct.ha ct.hn ct.htk ct.hm), by unfold PySem.W.notFirst; simp, ?_⟩
  refine ⟨gown g' ++ (own r ++ B.ps), gr, [], _, _, _, S2.tb, fun q hq => ?_, List.nodup_nil, (fun _ h => nomatch h), fun q hq => ?_, trivial, GOk.all fun x hx => (hgr x hx).elim (fun y => G.memb y) (old x), .cons (i := .rf p) rfl (.cons (i := .rf z) rfl .nil), hcc, fun s v g2 H' nw _ ro ho => ?_, fun _ _ _ _ _ hx => hx.elim⟩
  · rcases List.mem_append.mp hq with w | w
    · obtain ⟨u, eu, _⟩ := GOk.there G w
      rw [eu]; intro z; cases z
    · exact S2.dom q w
  · obtain ⟨x, h1, h2⟩ := gown_in hq
    rcases hgr x h1 with w | w
    · exact List.mem_append_left _ (gown_of w h2)
    · exact List.mem_append_right _ (w.own S1 q h2)
  · subst ho
    cases ro
    have s3 : Same H2 H' := fun a o e => nw.k a o e (List.not_mem_nil)
    exact ⟨w, rfl, w, rfl, q _ H' ((s1.trans s2).trans s3) (.bl (!w))⟩
end
/-- a property's facts -/
def propB (K : PySem.W.Frag) (C : Addr) (f : Str) (g : Addr) : Bool := match PySem.W.findIn K (.ref C) f with
  | some (some (.ref p)) => He.eqO (PySem.W.specialIn K (.ref p) "__get__") (some (some (.builtin "property.__get__"))) && (decide (PySem.W.takesIn K (.ref p) = some true) && (match PySem.W.recIn K p "property" with
    | some (.ref q :: _) => decide (q = g)
    | _ => false))
  | _ => false
theorem propB_ok {K : PySem.W.Frag} {C : Addr} {f : Str} {g : Addr} (h : propB K C f g = true) : ∃ p, PropOf K C f p g := by
  unfold propB at h
  split at h
  · rename_i p e
    obtain ⟨h1, h⟩ := He.ba h
    obtain ⟨h2, h3⟩ := He.ba h
    refine ⟨p, e, He.eqO_ok h1, of_decide_eq_true h2, ?_⟩
    split at h3
    · rename_i q rest e2
      have := of_decide_eq_true h3
      subst this
      exact ⟨rest, e2⟩
    · cases h3
  · cases h
end Tp

namespace Tp
open PySem L2
/-! ### the head, with defs that stand behind properties -/
def propG (K : PySem.W.Frag) (C : Addr) (f : Str) : Addr := match PySem.W.findIn K (.ref C) f with
  | some (some (.ref p)) => (match PySem.W.recIn K p "property" with
    | some (.ref q :: _) => q
    | _ => 0)
  | _ => 0
def obsP (n : Nat) (fa : List He.Fa) (fn : List He.DefD) (ts : List He.Tab) (tf : List He.Defn) (ex : PySem.W.Frag → Bool) (fp : List He5.DefA) (g : Addr → Option Obj) : He.AlX × He.AlD := (He.obsX n fa fn ts tf ex g, He5.obsA [] fp (He.frT g (He.asD g n)))
def hookP (n : Nat) (fa : List He.Fa) (fn : List He.DefD) (ts : List He.Tab) (tf : List He.Defn) (ex : PySem.W.Frag → Bool) (fp : List He5.DefA) : PySem.W.Hook where
  α := He.AlX × He.AlD
  obs := fun s => obsP n fa fn ts tf ex fp s.heap.get?
  val := fun w => (He.valX fn ts w, He5.valA fp)
  says := fun w h => ∃ K : PySem.W.Frag, K.In h ∧ He.SaysX fa fn ts tf ex w h K ∧ He5.SaysA [] fp K
  of := fun _ _ e => ⟨_, He.frT_in, He.saysX_of (congrArg Prod.fst e), congrArg Prod.snd e⟩
  keeps := fun _ _ _ ⟨K, hK, c, d⟩ k => ⟨K, PySem.W.Frag.In.keeps hK k, ⟨c.t, c.more, c.hd, c.out, fun p hp => k _ _ (c.empty p hp)⟩, d⟩
theorem obsP_eq {n : Nat} {fa : List He.Fa} {fn : List He.DefD} {ts : List He.Tab} {tf : List He.Defn} {ex : PySem.W.Frag → Bool} {fp : List He5.DefA} {g : Addr → Option Obj} {s : Shared} (h : ∀ a, g a = s.heap.get? a) : obsP n fa fn ts tf ex fp g = (hookP n fa fn ts tf ex fp).obs s := by
  have e : g = s.heap.get? := funext h
  rw [e] <;> rfl
end Tp
namespace Tp
open PySem L2
section
variable {X : Cx} {B : Bx} {r : List Sl} {g2 gr : List (Addr × Nd)} {x : Addr × Nd}
theorem alT_n : ∀ x ∈ ([] : List (Addr × Nd)), x ∈ g2 ∨ x ∈ B.gr ∨ InO r x := fun _ h => nomatch h
theorem alT_c (h : x ∈ g2 ∨ x ∈ B.gr ∨ InO r x) (hr : ∀ y ∈ gr, y ∈ g2 ∨ y ∈ B.gr ∨ InO r y) : ∀ y ∈ x :: gr, y ∈ g2 ∨ y ∈ B.gr ∨ InO r y := fun y hy => (List.mem_cons.mp hy).elim (fun z => z ▸ h) (hr y)
/-- isinstance(e, T), e an own exception caught, T a built-in class -/
theorem evIsXB {C : Addr} {a : Addr} {oe : Obj} {pn : List (Addr × Obj)} {n y : Str} {Ts : String} {k : Bool} {p p1 p2 pos : Pos} (i : Nat) (hs : SuOk C oe) (hr : r[i]? = some (.rf a)) (TC : ExcC X.K C) (gD : X.mg y = none) (hT : bootBuiltins y = some (.type Ts)) (hk : PySem.W.kitOne X.K (.ref C) (.type Ts) = some k) (hm : X.mg "isinstance" = none) (hgD : Gl X y := by rfl) (hg : Gl X "isinstance" := by rfl)
    (hN : X.N[i]? = some n := by rfl) (hv : Vis X.env.scope n := by first | exact Or.inl rfl | exact Or.inr (Or.inl rfl) | exact Or.inr (Or.inr rfl)) (hd : (n == ("__debug__" : Str)) = false := by decide) (hcd : (n == ("__classdict__" : Str)) = false := by decide) (hdy : (y == ("__debug__" : Str)) = false := by decide) (hny : y ≠ "__name__" := by decide)
    (hst : NSt X (.Name n p1) := by exact fun _ => rfl) (hst2 : NSt X (.Name y p2) := by exact fun _ => rfl) : EV (X.suite a ((a, oe) :: pn)) B (.Call (.Name "isinstance" p) [.Name n p1, .Name y p2] [] pos) r (.bool k) := by
  obtain ⟨te, pp, kk⟩ := esRf (X := X.suite a ((a, oe) :: pn)) (B := B) (pos := p1) i hr hN hv hd hcd
  refine ⟨_, pe_callB (X := X.suite a ((a, oe) :: pn)) (call_isE TC hs.1 hs.2) hg hm (by decide +kernel) (pa_cons pp (pa_cons (pe_bltn (X := X.suite a ((a, oe) :: pn)) (v := .ty Ts) hgD gD hT rfl hny hdy) pa_nil (hst2 _)) (hst _)) (he := hst _) (hpl := by rw [hst2]; rfl), fun H σ S Q q => kk H σ S _ ?_⟩
  exact ⟨.ty Ts, .type Ts, k, rfl, fun u ru => ru, hk, q _ H (Same.refl H) (.bl k)⟩
end
def kitX (K : PySem.W.Frag) (C : Addr) (t : String) : Bool := decide (PySem.W.kitOne K (.ref C) (.type t) = some true)
end Tp

namespace MnL
open PySem PySem.Spec PyProof.Rows L2
section
variable {X : Cx}
theorem vals_ints : ∀ {ns : List Int} {us : List Value}, Vals (ns.map V.int) us → IntsAre us ns
  | [], _, .nil => .nil
  | n :: ns, _, .cons h t => by obtain ⟨tk, rfl⟩ := h; exact .cons _ _ (vals_ints t)
theorem call_minI (hc : X.calm = true) : CallR X (.builtin "min") (fun vs H Q => ∃ (p : Addr) (ns : List Int), vs = [.ref p] ∧ SqL X.K H p (ns.map V.int) ∧ 0 < ns.length ∧ ∀ M, M ∈ ns → (∀ a ∈ ns, M ≤ a) → Q (.int M) H) := by
  intro pins s σ H vs us Q I r h
  obtain ⟨p, ns, rfl, hs, hne, q⟩ := h
  obtain ⟨its, rv, hl, _⟩ := I.list hs
  rw [Vals.ref1 r]
  have hi := vals_ints rv
  obtain ⟨xs, e⟩ := hi.allInts.items
  have hns : ns = xs.toList.map (·.1) := by
    rw [← hi.numsOf, ← nums_intItems, ← e]
  have hsz : 0 < xs.size := by
    have h3 := hne; rw [hns, List.length_map, Array.length_toList] at h3; exact h3
  have hl := hl.isList
  rw [e] at hl
  refine min_intList (I.ok.hd hc) hl hsz fun v h' tk hv hk => ?_
  obtain ⟨t, rfl⟩ := intItems_at hv
  obtain ⟨h1, h2⟩ := argBest_lt (numAt xs) (xs.size - 1)
  refine ⟨.int _, H, I.kept hk, ⟨t, rfl⟩, q _ ?_ fun a ha => ?_⟩
  · rw [hns, numAt_eq]; exact getD_mem (by rw [List.length_map, Array.length_toList]; omega)
  · rw [hns] at ha
    obtain ⟨j, hj, rfl⟩ := mem_getD ha
    rw [List.length_map, Array.length_toList] at hj
    rw [← numAt_eq]; exact h2 j (by omega)
theorem call_maxI (hc : X.calm = true) : CallR X (.builtin "max") (fun vs H Q => ∃ (p : Addr) (ns : List Int), vs = [.ref p] ∧ SqL X.K H p (ns.map V.int) ∧ 0 < ns.length ∧ ∀ M, M ∈ ns → (∀ a ∈ ns, a ≤ M) → Q (.int M) H) := by
  intro pins s σ H vs us Q I r h
  obtain ⟨p, ns, rfl, hs, hne, q⟩ := h
  obtain ⟨its, rv, hl, _⟩ := I.list hs
  rw [Vals.ref1 r]
  have hi := vals_ints rv
  obtain ⟨xs, e⟩ := hi.allInts.items
  have hns : ns = xs.toList.map (·.1) := by
    rw [← hi.numsOf, ← nums_intItems, ← e]
  have hsz : 0 < xs.size := by
    have h3 := hne; rw [hns, List.length_map, Array.length_toList] at h3; exact h3
  have hl := hl.isList
  rw [e] at hl
  refine max_intList (I.ok.hd hc) hl hsz fun v h' tk hv hk => ?_
  obtain ⟨t, rfl⟩ := intItems_at hv
  obtain ⟨h1, h2⟩ := argBest_gt (numAt xs) (xs.size - 1)
  refine ⟨.int _, H, I.kept hk, ⟨t, rfl⟩, q _ ?_ fun a ha => ?_⟩
  · rw [hns, numAt_eq]; exact getD_mem (by rw [List.length_map, Array.length_toList]; omega)
  · rw [hns] at ha
    obtain ⟨j, hj, rfl⟩ := mem_getD ha
    rw [List.length_map, Array.length_toList] at hj
    rw [← numAt_eq]; exact h2 j (by omega)
end
end MnL
namespace Tp
open PySem L2
section
variable {X : Cx} {B : Bx} {W : WX} {P : Po} {r q : List Sl} {e a b o tg : Expr} {es : List Expr} {kws : List Keyword} {rest body orelse : List Stmt} {d : D} {ds : List D} {pos pos' p1 apos : Pos} {k kk n : Nat} {x f m : Str} {ks : List Str} {gl g1 g2 gr : List (Addr × Nd)} {p C dx l : Addr} {fs fs' : List (Str × It)} {t : It} {its iks : List It} {c : CtM} {Po2 Po3 : Rs → List (Addr × Nd) → Prop} {Ex2 Ex3 : Addr → List (Addr × Nd) → Prop} {gI : List It → List It → List It}
theorem rpa_ints {K : PySem.W.Frag} {H : Hp} : ∀ {ns : List Int} {vs : List V}, RpA K H vs (ns.map PyData.int) → vs = ns.map V.int
  | [], _, .nil => rfl
  | n :: ns, _, .cons h t => by cases h; rw [rpa_ints t]; rfl
/-- min(list), max(list), ints -/
theorem evMinL {ns : List Int} {M : Int} (he : ES X B e r false (ns.map PyData.int)) (hM : M ∈ ns ∧ ∀ a ∈ ns, M ≤ a) (hc : X.calm = true) (hm : X.mg "min" = none) (hg : Gl X "min" := by rfl) (hst : NSt X e := by exact fun _ => rfl) : EV X B (.Call (.Name "min" p1) [e] [] pos) r (.int M) := by
  obtain ⟨t, pp, q⟩ := he
  refine ⟨_, pe_callB (MnL.call_minI hc) hg hm (by decide +kernel) (pa_cons pp pa_nil (hst _)) (he := hst _), fun H σ S Q g => q H σ S _ fun a vs H1 s1 y z => ?_⟩
  have := rpa_ints z
  subst this
  refine ⟨a, ns, rfl, y, List.length_pos_of_mem hM.1, fun M' h1 h2 => ?_⟩
  have e1 : M' = M := Int.le_antisymm (h2 M hM.1) (hM.2 M' h1)
  subst e1
  exact g _ H1 s1 (.int _)
theorem evMaxL {ns : List Int} {M : Int} (he : ES X B e r false (ns.map PyData.int)) (hM : M ∈ ns ∧ ∀ a ∈ ns, a ≤ M) (hc : X.calm = true) (hm : X.mg "max" = none) (hg : Gl X "max" := by rfl) (hst : NSt X e := by exact fun _ => rfl) : EV X B (.Call (.Name "max" p1) [e] [] pos) r (.int M) := by
  obtain ⟨t, pp, q⟩ := he
  refine ⟨_, pe_callB (MnL.call_maxI hc) hg hm (by decide +kernel) (pa_cons pp pa_nil (hst _)) (he := hst _), fun H σ S Q g => q H σ S _ fun a vs H1 s1 y z => ?_⟩
  have := rpa_ints z
  subst this
  refine ⟨a, ns, rfl, y, List.length_pos_of_mem hM.1, fun M' h1 h2 => ?_⟩
  have e1 : M' = M := Int.le_antisymm (hM.2 M' h1) (h2 M hM.1)
  subst e1
  exact g _ H1 s1 (.int _)
/-- o.f = a new list, whatever stood there -/
theorem sv_fldN (iG j : Nat) {F : Addr → List (Str × It)} (he : EN X B e r (fun l => .ol l ds)) (ho : ∀ l, ER X B o (r.set iG (.gs (gl ++ [(l, Nd.ls (ds.map It.da))]))) p) (hG : r[iG]? = some (.gs gl)) (hj : gl[j]? = some (p, .ob C dx fs)) (cl : Cls X.K C) (na : NoAttr X.K C f) (hz : fs.length < 1000) (hp : ∀ l, putI' f (It.rf l) fs = F l)
    (h : ∀ l, SV X B W rest (r.set iG (.gs ((gl ++ [(l, Nd.ls (ds.map It.da))]).set j (p, .ob C dx (F l))))) P) (hs : swapsWith e (some (.Attribute o f pos')) pos.line X.env = pure false := by rfl) :
    SV X B W (.Assign [.Attribute o f pos'] e pos :: rest) r P := fun H σ E S kt => by
  obtain ⟨tv, pv, kv⟩ := he
  let te : TE := fun σ H Q => ∃ t, PE X o t ∧ t σ H Q
  have pp : PE X o te := wE_ok
  refine ⟨_, pss_cons (ps_fld pp pv hs) wS_ok, kv H σ S _ fun l ob H1 s1 hl _ hv => ?_⟩
  obtain ⟨e0, vs, e1, ra⟩ := hv
  have eo : ob = .lst vs := by
    have : upd H1 l ob l = some (.lst vs) := e1
    rw [upd_same] at this
    exact Option.some.inj this
  subst eo
  have S1 := (S.mono s1).gadd (iG := iG) hG hl (RpA.its ra)
  obtain ⟨t0, p0, k0⟩ := ho l
  refine ⟨t0, p0, k0 _ σ S1 _ fun H2 s2 => ?_⟩
  have S2 := S1.mono s2
  have hG2 := get_set (s' := .gs (gl ++ [(l, Nd.ls (ds.map It.da))])) hG
  have hj2 : (gl ++ [(l, Nd.ls (ds.map It.da))])[j]? = some (p, .ob C dx fs) := by
    rw [List.getElem?_append_left (List.getElem?_eq_some_iff.mp hj).1]; exact hj
  obtain ⟨ws, e3, e4, z⟩ := (S2.ghosts hG2).1.get hj2
  refine ⟨p, C, dx, ws, rfl, e3, cl, na, by rw [z.len]; exact hz, ?_⟩
  have S3 := S2.fput (f := f) (t := It.rf l) (y := .ref l) hG2 hj2 e3 rfl
  rw [set_set, hp l] at S3
  exact h l _ σ E S3 kt
/-- o.f = f(..), a call that makes an object -/
theorem sv_fldOb (iG : Nat) {Po : Rs → List (Addr × Nd) → Prop} {Ex : Addr → List (Addr × Nd) → Prop} (he : EOb X B W iG e r Po Ex) (hG : r[iG]? = some (.gs gl))
    (h : ∀ s gl', Po s gl' → ∃ a p C dx fs fs' j, s = .rf a ∧ ER X B o (r.set iG (.gs gl')) p ∧ gl'[j]? = some (p, .ob C dx fs) ∧ Cls X.K C ∧ NoAttr X.K C f ∧ fs.length < 1000 ∧ putI' f (It.rf a) fs = fs' ∧ SV X B W rest (r.set iG (.gs (gl'.set j (p, .ob C dx fs')))) P) (hxe : ∀ C gl', Ex C gl' → P.ex C (r.set iG (.gs gl')))
    (hs : swapsWith e (some (.Attribute o f pos')) pos.line X.env = pure false := by rfl) : SV X B W (.Assign [.Attribute o f pos'] e pos :: rest) r P := fun H σ E S kt => by
  obtain ⟨tv, pv, kv⟩ := he
  let te : TE := fun σ H Q => ∃ t, PE X o t ∧ t σ H Q
  have pp : PE X o te := wE_ok
  refine ⟨_, pss_cons (ps_fld pp pv hs) wS_ok, kv H σ S _ (fun s v gl' H1 S1 ro hP => ?_) fun C gl' H' S' hx => kt.ex C _ σ H' S' (hxe C gl' hx)⟩
  obtain ⟨a, p, C, dx, fs, fs', j, rfl, ⟨t0, p0, k0⟩, hj, cl, na, hz, hp, hk⟩ := h s gl' hP
  cases ro
  refine ⟨t0, p0, k0 _ σ S1 _ fun H2 s2 => ?_⟩
  have S2 := S1.mono s2
  have hG2 := get_set (s' := .gs gl') hG
  obtain ⟨ws, e3, e4, z⟩ := (S2.ghosts hG2).1.get hj
  refine ⟨p, C, dx, ws, rfl, e3, cl, na, by rw [z.len]; exact hz, ?_⟩
  have S3 := S2.fput (f := f) (t := It.rf a) (y := .ref a) hG2 hj e3 rfl
  rw [set_set, hp] at S3
  exact hk _ σ E S3 kt
/-! arguments of which the first makes an object -/
def EAo (X : Cx) (B : Bx) (iG : Nat) (es : List Expr) (r : List Sl) (Pa : List It → List (Addr × Nd) → Prop) : Prop :=
  ∃ ta, PA X es ta ∧ ∀ H σ, SOk X.K B r H σ → ∀ Q : List V → Hp → Prop, (∀ vs its gl' H', SOk X.K B (r.set iG (.gs gl')) H' σ → ItA X.K (hid B (r.set iG (.gs gl')) H') vs its → Pa its gl' → Q vs H') → ta σ H Q
theorem eaoOb (iG : Nat) {Po : Rs → List (Addr × Nd) → Prop} {Pa : List It → List (Addr × Nd) → Prop} (he : EOb X B W iG e r Po fun _ _ => False) (hr : ∀ s gl', Po s gl' → ∃ a its, s = .rf a ∧ EAi X B es (r.set iG (.gs gl')) its ∧ Pa (.rf a :: its) gl') (hst : NSt X e := by exact fun _ => rfl) : EAo X B iG (e :: es) r Pa := by
  obtain ⟨te, pe, ke⟩ := he
  let ta : TA := fun σ H Q => ∃ t, PA X es t ∧ t σ H Q
  have pa : PA X es ta := ⟨fun pos pins s σ H Q I ⟨t, p, z⟩ => p.run pos pins s σ H Q I z⟩
  refine ⟨_, pa_cons pe pa (hst _), fun H σ S Q q => ke H σ S _ (fun s v gl' H1 S1 ro hP => ?_) fun _ _ _ _ hx => hx.elim⟩
  obtain ⟨a, its, rfl, ⟨t, p, ka⟩, hPa⟩ := hr s gl' hP
  cases ro
  exact ⟨t, p, ka H1 σ S1 _ fun vs H2 s2 y => q _ _ gl' H2 (S1.mono s2) (.cons (i := .rf a) rfl y) hPa⟩
theorem eoMethAo (iG : Nat) {pl : Sem Bool} {Pa : List It → List (Addr × Nd) → Prop} (g : Go X W kk) (ho : ER X B o r p) (cl : Cls X.K C) (M : MthM X.prog X.w B.ts X.K X.mg X.base C m k c) (hk : k ≤ kk) (hI : InG B r (p, .ob C dx fs)) (hl : fs.lookup m = none) (hG : r[iG]? = some (.gs gl)) (ha : EAo X B iG (e :: es) r Pa)
    (hc : ∀ its gl', Pa its gl' → ∃ g1 g2 gr Po2, gl'.Perm (g1 ++ g2) ∧ (∀ x ∈ gr, x ∈ g2 ∨ x ∈ B.gr) ∧ c (.rf p :: its) gr g1 Po2 (fun _ _ => False) ∧ ∀ s g', Po2 s g' → Po3 s (g' ++ g2))
    (hst : starEach (e :: es) X.env = (false, eval e X.env) :: starEach es X.env := by rfl) (hpl : (backTo pos (starEach es X.env)).any (·.1) = false := by rfl)
    (ht : eval (.Call (.Attribute o m apos) (e :: es) [] pos) X.env = (do
      let ov ← eval o X.env
      standAt apos.atName
      let (f, first) ← holding [ov] (getMethod ov m pl)
      callWith pos f first (backTo pos (starEach (e :: es) X.env)) (backToKw pos (keywordEach [] X.env))) := by rfl) : EOb X B W iG (.Call (.Attribute o m apos) (e :: es) [] pos) r Po3 (fun _ _ => False) := by
  obtain ⟨f, fd, ps, F, hm, hb⟩ := M
  obtain ⟨te, pp, kt⟩ := ho
  obtain ⟨ta, pa, ka⟩ := ha
  refine ⟨_, pe_methX pp cl hm F (g.hr.mono hk) hb (fun σ => passAt g.tk σ) pa hst hpl ht, fun H σ S Q q qx => kt H σ S _ fun H1 s1 => ?_⟩
  obtain ⟨vs, e1, e2, z⟩ := hI.ok (S.mono s1)
  refine ⟨p, dx, vs, rfl, e1, z.none hl, ka H1 σ (S.mono s1) _ fun ws its gl' H2 S2 y hPa => ?_⟩
  obtain ⟨g1, g2, gr, Po2, hp, hr, hcc, h1⟩ := hc its gl' hPa
  refine spM_own S2 (get_set hG) hp (fun x hx => (hr x hx).elim .inl fun z => .inr (.inl z)) (.cons (i := .rf p) rfl y) hcc (fun s v g' H' S' ro ho => ?_) fun _ _ _ _ hx => hx.elim
  rw [set_set] at S' ro
  exact q s v _ H' S' ro (h1 s g' ho)
/-- return o, an object -/
theorem sv_retR (he : ER X B e r p) (h : P.rt (.rf p) r) : SV X B W (.Return (some e) pos :: rest) r P := fun H σ E S kt => by
  obtain ⟨te, pp, q⟩ := he
  exact ⟨_, pss_cons (ps_ret pp) wS_ok, q H σ S _ fun H1 s1 => kt.rt (.rf p) _ r σ H1 (S.mono s1) rfl h⟩
theorem eoCallAo (iG : Nat) {Pa : List It → List (Addr × Nd) → Prop} (g : Go X W kk) (M : CalM X.prog X.w B.ts X.K X.mg X.base x k c n [] gI) (hk : k ≤ kk) (hG : r[iG]? = some (.gs gl)) (ha : EAo X B iG (e :: es) r Pa)
    (hc : ∀ its gl', Pa its gl' → its.length = n ∧ ∃ g1 g2 gr Po2, gl'.Perm (g1 ++ g2) ∧ (∀ x ∈ gr, x ∈ g2 ∨ x ∈ B.gr) ∧ c (gI its []) gr g1 Po2 (fun _ _ => False) ∧ ∀ s g', Po2 s g' → Po3 s (g' ++ g2))
    (hg : Gl X x := by rfl) (hdb : (x == ("__debug__" : Str)) = false := by decide) (he : starEach (e :: es) X.env = (false, eval e X.env) :: starEach es X.env := by rfl)
    (hpl : ((backTo pos (starEach (e :: es) X.env)).any (·.1) || (backToKw pos (keywordEach [] X.env)).any (·.1.isNone)) = false := by rfl) : EOb X B W iG (.Call (.Name x p1) (e :: es) [] pos) r Po3 (fun _ _ => False) := by
  obtain ⟨f, fd, ps, gg, gV, F, hm, hkp, hb, hI⟩ := M
  obtain ⟨ta, pa, ka⟩ := ha
  refine ⟨_, pe_callNS F (g.hr.mono hk) hg hm hkp hb (fun σ => passAt g.tk σ) pa pk_nil rfl rfl hdb he hpl, fun H σ S Q q qx => ka H σ S _ fun vs its gl' H1 S1 y hPa => ?_⟩
  obtain ⟨hn, g1, g2, gr, Po2, hp, hr, hcc, h1⟩ := hc its gl' hPa
  refine ⟨y.len.trans hn, rfl, ?_⟩
  refine spM_own S1 (get_set hG) hp (fun x hx => (hr x hx).elim .inl fun z => .inr (.inl z)) (hI _ _ _ _ [] hn rfl y .nil) hcc (fun s v g' H' S' ro ho => ?_) fun _ _ _ _ hx => hx.elim
  rw [set_set] at S' ro
  exact q s v _ H' S' ro (h1 s g' ho)
end
end Tp
namespace MnL
open PySem PySem.Spec PyProof.Rows L2
section
variable {prog : Program} {w : World} {A : Around} {E : Value → Shared → Prop} {s : Shared} {l : Addr} {xs : Array (Int × Tok)}
theorem iter_intTuple {Q : Value → Shared → Prop} (hl : s.heap.IsTuple l (intItems xs))
    (h : ∀ s₂ : Shared, s₂ = { s with heap := s.heap.push { cls := .type "tuple_iterator", data := .fields #[.ref l, .int 0 0] } } →
      (s₂.heap.IsTupleIter s.heap.objs.size l 0 ∧ s₂.heap.IsTuple l (intItems xs)) → (∀ b ∈ [s.heap.objs.size, l], b < s₂.heap.objs.size) → l ≠ s.heap.objs.size → Q (.ref s.heap.objs.size) s₂) :
    wpAny (model prog w) A (pyIter (.ref l)) Q E s := by
  have hlt : l < s.heap.objs.size := by obtain ⟨_, e, _⟩ := hl; exact Heap.lt_size e
  refine wpAny_pyIter_tuple hl (h _ rfl ⟨⟨_, Heap.get?_push_size _ rfl, rfl, rfl⟩, hl.push _⟩ (fun b hb => ?_) (Nat.ne_of_lt hlt))
  show b < (s.heap.push _).objs.size
  rw [Heap.size_push]
  rcases List.mem_cons.mp hb with rfl | hb
  · exact Nat.lt_succ_self _
  · rcases List.mem_cons.mp hb with rfl | hb
    · exact Nat.lt_succ_of_lt hlt
    · cases hb
theorem old_keptT {h' : Heap} (hk : ∀ b o, b ∉ [s.heap.objs.size] → (s.heap.push { cls := .type "tuple_iterator", data := .fields #[.ref l, .int 0 0] }).get? b = some o → h'.get? b = some o) :
    ∀ b o, s.heap.get? b = some o → h'.get? b = some o := fun b o e => by
  refine hk b o (fun hm => ?_) (Heap.get?_push_of_some _ e)
  rcases List.mem_cons.mp hm with e1 | hm
  · exact absurd (e1 ▸ Heap.lt_size e) (Nat.lt_irrefl _)
  · cases hm
theorem max_intTuple {Q : Value → Shared → Prop} (hh : A.handled = none) (hl : s.heap.IsTuple l (intItems xs)) (hne : 0 < xs.size)
    (h : ∀ v h' tk, (intItems xs)[argBest (fun i j => decide (numAt xs i > numAt xs j)) (xs.size - 1)]? = some v → (∀ b o, s.heap.get? b = some o → h'.get? b = some o) → Q v { s with heap := h', toks := tk }) :
    wpAny (model prog w) A (call (.builtin "max") [.ref l]) Q E s := by
  refine call_max_walk (iter_intTuple hl fun s₂ e st hfp hlI => ?_)
  subst e
  refine ⟨_, _, _, _, _, _, _, rfl, Walks.tuple (A := A.in1) hh _ l hlI (intItems xs), st, hfp, by simpa [intItems] using hne, CmpOf.ints_gt (numAt xs) (fun _ _ => intItems_at), fun v h' tk hP hk => ?_⟩
  exact h v h' tk (by simpa [intItems] using hP) (old_keptT hk)
end
section
variable {X : Cx}
theorem call_maxT (hc : X.calm = true) : CallR X (.builtin "max") (fun vs H Q => ∃ (p : Addr) (ns : List Int), vs = [.ref p] ∧ SqT X.K H p (ns.map V.int) ∧ 0 < ns.length ∧ ∀ M, M ∈ ns → (∀ a ∈ ns, a ≤ M) → Q (.int M) H) := by
  intro pins s σ H vs us Q I r h
  obtain ⟨p, ns, rfl, hs, hne, q⟩ := h
  obtain ⟨its, rv, hl, _⟩ := I.tuple hs
  rw [Vals.ref1 r]
  have hi := vals_ints rv
  obtain ⟨xs, e⟩ := hi.allInts.items
  have hns : ns = xs.toList.map (·.1) := by
    rw [← hi.numsOf, ← nums_intItems, ← e]
  have hsz : 0 < xs.size := by
    have h3 := hne; rw [hns, List.length_map, Array.length_toList] at h3; exact h3
  rw [e] at hl
  refine max_intTuple (I.ok.hd hc) hl hsz fun v h' tk hv hk => ?_
  obtain ⟨t, rfl⟩ := intItems_at hv
  obtain ⟨h1, h2⟩ := argBest_gt (numAt xs) (xs.size - 1)
  refine ⟨.int _, H, I.kept hk, ⟨t, rfl⟩, q _ ?_ fun a ha => ?_⟩
  · rw [hns, numAt_eq]; exact getD_mem (by rw [List.length_map, Array.length_toList]; omega)
  · rw [hns] at ha
    obtain ⟨j, hj, rfl⟩ := mem_getD ha
    rw [List.length_map, Array.length_toList] at hj
    rw [← numAt_eq]; exact h2 j (by omega)
end
end MnL
namespace Tp
open PySem L2
section
variable {X : Cx} {B : Bx} {r : List Sl} {e : Expr} {pos p1 : Pos}
theorem evMaxT {ns : List Int} {M : Int} (he : ES X B e r true (ns.map PyData.int)) (hM : M ∈ ns ∧ ∀ a ∈ ns, a ≤ M) (hc : X.calm = true) (hm : X.mg "max" = none) (hg : Gl X "max" := by rfl) (hst : NSt X e := by exact fun _ => rfl) : EV X B (.Call (.Name "max" p1) [e] [] pos) r (.int M) := by
  obtain ⟨t, pp, q⟩ := he
  refine ⟨_, pe_callB (MnL.call_maxT hc) hg hm (by decide +kernel) (pa_cons pp pa_nil (hst _)) (he := hst _), fun H σ S Q g => q H σ S _ fun a vs H1 s1 y z => ?_⟩
  have := rpa_ints z
  subst this
  refine ⟨a, ns, rfl, y, List.length_pos_of_mem hM.1, fun M' h1 h2 => ?_⟩
  have e1 : M' = M := Int.le_antisymm (hM.2 M' h1) (h2 M hM.1)
  subst e1
  exact g _ H1 s1 (.int _)
end
end Tp

namespace Tp
open PySem L2
section
variable {X : Cx} {B : Bx} {W : WX} {P : Po} {r q : List Sl} {e a b o tg : Expr} {es : List Expr} {kws : List Keyword} {rest body orelse : List Stmt} {d : D} {ds : List D} {pos pos' p1 apos : Pos} {k kk n : Nat} {x f m : Str} {p : Addr}
/-- a name for an object that is there -/
theorem sv_asgR (i : Nat) (g : Go X W k) (he : ER X B e r p) (h : SV X B W rest (r.set i (.rf p)) P) (hi : X.N[i]? = some x := by rfl) (hx : Loc X.env.scope x := by first | exact Or.inl rfl | exact Or.inr rfl)
    (hs : swapsWith e (some (.Name x pos')) pos.line X.env = pure false := by rfl) (hf : X.fn x = true ∨ X.env.scope.names.lookup x = some .local := by first | exact .inl rfl | exact .inr rfl) : SV X B W (.Assign [.Name x pos'] e pos :: rest) r P := fun H σ E S kt => by
  obtain ⟨te, pp, q⟩ := he
  exact ⟨_, pss_cons (ps_set g.nd hi hx pp hs hf) wS_ok, q H σ S _ fun H1 s1 => h H1 _ E ((S.mono s1).set (s := .rf p) rfl rfl) kt⟩
theorem evIfI {c : Expr} {k : Bool} {i j : Int} (h : ET X B c r k) (h1 : k = true → EV X B a r (.int i)) (h2 : k = false → EV X B b r (.int j)) : EV X B (.IfExp c a b pos) r (.int (if k = true then i else j)) := by
  cases k with
  | true => exact evIf h (fun _ => h1 rfl) (fun z => nomatch z)
  | false => exact evIf h (fun z => nomatch z) (fun _ => h2 rfl)
/-- over a list that may differ from turn to turn in its values, never in its length -/
theorem for_listG {K : PySem.W.Frag} {a : Addr} {n : Nat} {g : TG} {tb : TS} {D : Ends} {σ : St} {H : Hp} (Pv : Nat → St → Hp → Prop) (h0 : Pv 0 σ H)
    (hl : ∀ i σ H, i ≤ n → Pv i σ H → ∃ xs : List V, SqL K H a xs ∧ xs.length = n ∧ ∀ x, xs[i]? = some x → g x σ H fun σ2 H2 => tb { D with nx := Pv (i + 1), ct := Pv (i + 1), bk := D.nx } σ2 H2) (hd : ∀ σ H, Pv n σ H → D.nx σ H) :
    ∃ W : Nat → Nat → St → Hp → Prop, (∃ m, W 0 m σ H) ∧ ∀ i m σ H, W i m σ H →
      ((Itl K a).stop i H ∧ D.nx σ H) ∨ ((Itl K a).go i H ∧ ∃ N : St → Hp → Prop, (∀ σ' H', N σ' H' → ∃ m', m' < m ∧ W (i + 1) m' σ' H') ∧ ∀ x H', (Itl K a).yld i H x H' → g x σ H' fun σ2 H2 => tb { D with nx := N, ct := N, bk := D.nx } σ2 H2) := by
  refine ⟨fun i m σ H => m = n - i ∧ i ≤ n ∧ Pv i σ H, ⟨n, by simp, Nat.zero_le _, h0⟩, ?_⟩
  rintro i m σ H ⟨rfl, hi, p⟩
  obtain ⟨xs, q, hn, hs⟩ := hl i σ H hi p
  by_cases hlt : i < n
  · have hx : xs[i]? = some (xs[i]'(by omega)) := List.getElem?_eq_getElem _
    refine .inr ⟨⟨xs, _, q, hx⟩, Pv (i + 1), fun σ' H' p' => ⟨n - (i + 1), by omega, rfl, hlt, p'⟩, fun x H' y => ?_⟩
    obtain ⟨e, y⟩ := y
    subst e
    exact hs x (y xs q)
  · have e : i = n := by omega
    subst e
    exact .inl ⟨⟨xs, q, by omega⟩, hd σ H p⟩
/-- for x in a list of data among the ghosts -/
theorem sv_forG {l : Addr} (I : Nat → List Sl → Prop) (tq : D → List Sl → List Sl) (g : Go X W k) (he : ER X B e r l) (hG : ∀ (i : Nat) r', I i r' → InG B r' (l, Nd.ls (ds.map It.da))) (ht : ∀ (i : Nat) d r', ds[i]? = some d → GT X B tg r' d (tq d r')) (h0 : I 0 r)
    (hs : ∀ (i : Nat) d r', ds[i]? = some d → I i r' → SV X B W body (tq d r') (P.loop (LN I (i + 1)) fun q => SV X B W rest q P)) (hd : ∀ r', I ds.length r' → SV X B W rest r' P)
    (hfs : ∀ x, foldedSetIterable e X.env x = pure x := by intro _; rfl) : SV X B W (.For tg e body [] pos :: rest) r P := fun H σ E S kt => by
  obtain ⟨te, pp, ke⟩ := he
  refine ⟨_, pss_cons (ps_for g.po g.calm (pi_list pp) (wG_ok (tg := tg)) (wS_ok (sts := body)) hfs) wS_ok, ?_⟩
  refine ke H σ S _ fun H1 s1 => ?_
  have S1 := S.mono s1
  obtain ⟨vs, e1, y⟩ := (hG 0 r h0).ok S1
  refine ⟨l, rfl, ⟨vs, SqL.of e1⟩, ?_⟩
  refine for_listG (g := wG X tg) (tb := wS X body) (D := { E with nx := wS X rest E }) (K := X.K) (a := l) (n := ds.length) (fun i σ' H' => ∃ r', SOk X.K B r' H' σ' ∧ I i r') ⟨r, S1, h0⟩ (fun i σ' H' _ ⟨r', S', hI⟩ => ?_) (fun σ' H' ⟨r', S', hI⟩ => hd r' hI H' σ' E S' kt)
  obtain ⟨vs, e1, y⟩ := (hG i r' hI).ok S'
  refine ⟨vs, SqL.of e1, y.das.len, fun x hx => ?_⟩
  obtain ⟨d, hd', rd⟩ := y.das.getV hx
  obtain ⟨gx, px, kx⟩ := ht i d r' hd'
  refine ⟨gx, px, kx H' σ' _ S' rd _ fun σ2 S2 => hs i d r' hd' hI H' σ2 _ S2 ⟨?_, kt.rt, ?_, ?_, kt.ex⟩⟩
  · rintro r2 σ3 H3 S3 ⟨q', w, hI'⟩
    exact ⟨q', S3.weak w, hI'⟩
  · exact fun r2 σ3 H3 S3 hb => hb H3 σ3 E S3 kt
  · rintro r2 σ3 H3 S3 ⟨q', w, hI'⟩
    exact ⟨q', S3.weak w, hI'⟩
end
end Tp

namespace Tp
open PySem L2
section
variable {X : Cx} {B : Bx} {W : WX} {P : Po} {r q : List Sl} {e a b o tg : Expr} {es rest : List Expr} {d : D} {ds : List D} {pos pos' p1 apos : Pos} {k kk n : Nat} {x f m : Str} {p : Addr} {gl : List (Addr × Nd)} {Po Po1 : Rs → List (Addr × Nd) → Prop} {iG : Nat}
def wR (X : Cx) (f : Value → Value → Sem Value) : R2 := fun x y H Q => ∃ r, OpR X f r ∧ r x y H Q
theorem wR_ok {X : Cx} {f : Value → Value → Sem Value} : OpR X f (wR X f) := fun pins s σ H x y v u Q I rx ry ⟨r, po, h⟩ => po pins s σ H x y v u Q I rx ry h
/-- data, with ghosts in sight -/
theorem eoV (h : EV X B e r d) (hG : r[iG]? = some (.gs gl)) : EOb X B W iG e r (fun s gl' => s = .da d ∧ gl' = gl) (fun _ _ => False) := by
  obtain ⟨t, p, q⟩ := h
  refine ⟨_, p, fun H σ S Q z _ => q H σ S _ fun v H1 s1 y => ?_⟩
  have e : r.set iG (.gs gl) = r := set_self hG
  exact z (.da d) v gl H1 (by rw [e]; exact S.mono s1) (by rw [e]; exact y) ⟨rfl, rfl⟩
theorem eoWk {Po2 : Rs → List (Addr × Nd) → Prop} (h : EOb X B W iG e r Po fun _ _ => False) (h2 : ∀ s gl', Po s gl' → Po2 s gl') : EOb X B W iG e r Po2 fun _ _ => False := by
  obtain ⟨t, p, q⟩ := h
  exact ⟨t, p, fun H σ S Q z zx => q H σ S Q (fun s v gl' H' S' ro ho => z s v gl' H' S' ro (h2 s gl' ho)) fun _ _ _ _ y => y.elim⟩
/-- a comparison whose first part turns ghosts -/
theorem eoCmp {op : CmpOp} (he : EOb X B W iG a r Po1 fun _ _ => False) (h : ∀ s gl', Po1 s gl' → ∃ d1 d2 k, s = .da d1 ∧ EH X B b (r.set iG (.gs gl')) d2 ∧ CV X op d1 d2 k ∧ Po (.da (.bool k)) gl') (hm : behindInMarks op b = false := by first | exact nomark _ | rfl) : EOb X B W iG (.Compare a [op] [b] pos) r Po fun _ _ => False := by
  obtain ⟨ta, pa, ka⟩ := he
  refine ⟨_, pe_cmpR wR_ok pa (wE_ok (e := b)) hm, fun H σ S Q q _ => ka H σ S _ (fun s v gl' H' S' ro ho => ?_) fun _ _ _ _ z => z.elim⟩
  obtain ⟨d1, d2, k, rfl, ⟨tb, pb, kb⟩, ⟨rr, po, ko⟩, hPo⟩ := h s gl' ho
  have ro : Rp X.K (hid B (r.set iG (.gs gl')) H') v d1 := ro
  refine ⟨tb, pb, kb H' σ S' _ fun y H2 s2 ry => ⟨rr, po, ko H2 v y ((ro.mono hide_same).mono s2) ry _ ?_⟩⟩
  exact q (.da (.bool k)) (.bl k) gl' H2 (S'.mono s2) (.bl k) hPo
theorem etgCmp {op : CmpOp} {Pk : Bool → List (Addr × Nd) → Prop} (he : EOb X B W iG a r Po1 fun _ _ => False) (h : ∀ s gl', Po1 s gl' → ∃ d1 d2 k, s = .da d1 ∧ EH X B b (r.set iG (.gs gl')) d2 ∧ CV X op d1 d2 k ∧ Pk k gl') (hm : behindInMarks op b = false := by first | exact nomark _ | rfl) : ETg X B W iG (.Compare a [op] [b] pos) r Pk := by
  obtain ⟨ta, pa, ka⟩ := he
  refine ⟨_, pt_cmpR wR_ok pa (wE_ok (e := b)) hm, fun H σ S Q q => ka H σ S _ (fun s v gl' H' S' ro ho => ?_) fun _ _ _ _ z => z.elim⟩
  obtain ⟨d1, d2, k, rfl, ⟨tb, pb, kb⟩, ⟨rr, po, ko⟩, hPo⟩ := h s gl' ho
  have ro : Rp X.K (hid B (r.set iG (.gs gl')) H') v d1 := ro
  exact ⟨tb, pb, kb H' σ S' _ fun y H2 s2 ry => ⟨rr, po, ko H2 v y ((ro.mono hide_same).mono s2) ry _ ⟨k, rfl, q k gl' H2 (S'.mono s2) hPo⟩⟩⟩
theorem eoOne {op : BoolOp} {Ex : Addr → List (Addr × Nd) → Prop} (h : EOb X B W iG a r Po Ex) : EOb X B W iG (.BoolOp op [a] pos) r Po Ex := by
  obtain ⟨t, p, q⟩ := h
  exact ⟨_, pe_one p, q⟩
/-- and, as a value: the first part may turn ghosts, and the others too -/
theorem eoAnd (ha : EOb X B W iG a r Po1 fun _ _ => False) (h : ∀ s gl', Po1 s gl' → ∃ k, s = .da (.bool k) ∧ (k = true → EOb X B W iG (.BoolOp .And (b :: rest) pos) (r.set iG (.gs gl')) Po fun _ _ => False) ∧ (k = false → Po (.da (.bool false)) gl')) : EOb X B W iG (.BoolOp .And (a :: b :: rest) pos) r Po fun _ _ => False := by
  obtain ⟨ta, pa, ka⟩ := ha
  refine ⟨_, pe_and pa (wE_ok (e := .BoolOp .And (b :: rest) pos)), fun H σ S Q q _ => ka H σ S _ (fun s v gl' H' S' ro ho => ?_) fun _ _ _ _ z => z.elim⟩
  obtain ⟨k, rfl, h1, h2⟩ := h s gl' ho
  cases ro
  refine ⟨k, rfl, ?_⟩
  cases k with
  | true =>
    obtain ⟨tb, pb, kb⟩ := h1 rfl
    refine iteT ⟨tb, pb, kb H' σ S' _ (fun s2 v2 gl2 H2 S2 ro2 ho2 => ?_) fun _ _ _ _ z => z.elim⟩
    rw [set_set] at S2 ro2
    exact q s2 v2 gl2 H2 S2 ro2 ho2
  | false => exact iteF (q (.da (.bool false)) (.bl false) gl' H' S' (.bl false) (h2 rfl))
theorem eoOr (ha : EOb X B W iG a r Po1 fun _ _ => False) (h : ∀ s gl', Po1 s gl' → ∃ k, s = .da (.bool k) ∧ (k = false → EOb X B W iG (.BoolOp .Or (b :: rest) pos) (r.set iG (.gs gl')) Po fun _ _ => False) ∧ (k = true → Po (.da (.bool true)) gl')) : EOb X B W iG (.BoolOp .Or (a :: b :: rest) pos) r Po fun _ _ => False := by
  obtain ⟨ta, pa, ka⟩ := ha
  refine ⟨_, pe_or pa (wE_ok (e := .BoolOp .Or (b :: rest) pos)), fun H σ S Q q _ => ka H σ S _ (fun s v gl' H' S' ro ho => ?_) fun _ _ _ _ z => z.elim⟩
  obtain ⟨k, rfl, h1, h2⟩ := h s gl' ho
  cases ro
  refine ⟨k, rfl, ?_⟩
  cases k with
  | false =>
    obtain ⟨tb, pb, kb⟩ := h1 rfl
    refine iteF ⟨tb, pb, kb H' σ S' _ (fun s2 v2 gl2 H2 S2 ro2 ho2 => ?_) fun _ _ _ _ z => z.elim⟩
    rw [set_set] at S2 ro2
    exact q s2 v2 gl2 H2 S2 ro2 ho2
  | true => exact iteT (q (.da (.bool true)) (.bl true) gl' H' S' (.bl true) (h2 rfl))
theorem eoNot (ha : EOb X B W iG a r Po1 fun _ _ => False) (h : ∀ s gl', Po1 s gl' → ∃ k, s = .da (.bool k) ∧ Po (.da (.bool (!k))) gl') : EOb X B W iG (.UnaryOp .Not a pos) r Po fun _ _ => False := by
  obtain ⟨ta, pa, ka⟩ := ha
  refine ⟨_, pe_not pa, fun H σ S Q q _ => ka H σ S _ (fun s v gl' H' S' ro ho => ?_) fun _ _ _ _ z => z.elim⟩
  obtain ⟨k, rfl, h1⟩ := h s gl' ho
  cases ro
  exact ⟨k, rfl, q (.da (.bool (!k))) (.bl (!k)) gl' H' S' (.bl _) h1⟩
/-- and, as a test -/
theorem etgAnd {Pa Pk : Bool → List (Addr × Nd) → Prop} (h : ETg X B W iG a r Pa) (hb : ∀ gl', Pa true gl' → ETg X B W iG b (r.set iG (.gs gl')) Pk) (h2 : ∀ gl', Pa false gl' → Pk false gl') : ETg X B W iG (.BoolOp .And [a, b] pos) r Pk := by
  obtain ⟨t, p, q⟩ := h
  refine ⟨_, (pw_and p (pw_and1 (wT_ok (e := b)))).pt, fun H σ S Q z => q H σ S _ fun k gl' H' S' hk => ?_⟩
  cases k with
  | false => exact iteF (z false gl' H' S' (h2 gl' hk))
  | true =>
    obtain ⟨t', p', q'⟩ := hb gl' hk
    refine iteT ⟨t', p', q' H' σ S' _ fun k2 gl2 H2 S2 hk2 => ?_⟩
    rw [set_set] at S2
    exact z k2 gl2 H2 S2 hk2
theorem etgOrG {Pa Pk : Bool → List (Addr × Nd) → Prop} (h : ETg X B W iG a r Pa) (hb : ∀ gl', Pa false gl' → ETg X B W iG b (r.set iG (.gs gl')) Pk) (h2 : ∀ gl', Pa true gl' → Pk true gl') : ETg X B W iG (.BoolOp .Or [a, b] pos) r Pk := by
  obtain ⟨t, p, q⟩ := h
  refine ⟨_, (pw_or p (pw_or1 (wT_ok (e := b)))).pt, fun H σ S Q z => q H σ S _ fun k gl' H' S' hk => ?_⟩
  cases k with
  | true => exact iteT (z true gl' H' S' (h2 gl' hk))
  | false =>
    obtain ⟨t', p', q'⟩ := hb gl' hk
    refine iteF ⟨t', p', q' H' σ S' _ fun k2 gl2 H2 S2 hk2 => ?_⟩
    rw [set_set] at S2
    exact z k2 gl2 H2 S2 hk2
/-- a test over data, with ghosts in sight -/
theorem etgT {k : Bool} (h : ET X B e r k) (hG : r[iG]? = some (.gs gl)) : ETg X B W iG e r (fun z gl' => z = k ∧ gl' = gl) := by
  obtain ⟨t, p, q⟩ := h
  refine ⟨_, p, fun H σ S Q z => q H σ S _ fun H1 s1 => ?_⟩
  have e : r.set iG (.gs gl) = r := set_self hG
  exact z k gl H1 (by rw [e]; exact S.mono s1) ⟨rfl, rfl⟩
theorem sv_ifGF {c : Expr} {body sts : List Stmt} {Pg : List (Addr × Nd) → Prop} (hc : ETg X B W iG c r (fun k gl' => k = false ∧ Pg gl')) (h : ∀ gl', Pg gl' → SV X B W sts (r.set iG (.gs gl')) P) : SV X B W (.If c body [] pos :: sts) r P :=
  sv_ifG hc (fun gl' h' => nomatch h'.1) fun gl' h' => sv_nil (h gl' h'.2)
theorem evIfD {c : Expr} {k : Bool} {d1 d2 : D} (h : ET X B c r k) (h1 : k = true → EV X B a r d1) (h2 : k = false → EV X B b r d2) : EV X B (.IfExp c a b pos) r (if k = true then d1 else d2) := by
  cases k with
  | true => exact evIf h (fun _ => h1 rfl) (fun z => nomatch z)
  | false => exact evIf h (fun z => nomatch z) (fun _ => h2 rfl)
/-- an object ahead of the one that is made -/
theorem eaoR {Pa Pb : List It → List (Addr × Nd) → Prop} (he : ER X B e r p) (hr : EAo X B iG es r Pa) (h2 : ∀ its gl', Pa its gl' → Pb (.rf p :: its) gl') (hst : NSt X e := by exact fun _ => rfl) : EAo X B iG (e :: es) r Pb := by
  obtain ⟨te, pe, ke⟩ := he
  obtain ⟨ta, pa, ka⟩ := hr
  refine ⟨_, pa_cons pe pa (hst _), fun H σ S Q q => ke H σ S _ fun H1 s1 => ka H1 σ (S.mono s1) _ fun vs its gl' H2 S2 y hPa => q _ _ gl' H2 S2 (.cons (i := .rf p) rfl y) (h2 its gl' hPa)⟩
/-- or, as a test, with any number of parts: only the first turns ghosts -/
def wW (X : Cx) (e : Expr) : TT := fun σ H Q => ∃ t, PW X e t ∧ t σ H Q
theorem wW_ok {X : Cx} {e : Expr} : PW X e (wW X e) := ⟨fun wh pins s σ H Q I ⟨_, p, h⟩ => p.run wh pins s σ H Q I h⟩
theorem etgOrW {Pa Pk : Bool → List (Addr × Nd) → Prop} (h : ETg X B W iG a r Pa) (hb : ∀ gl', Pa false gl' → ∃ k, EW X B (.BoolOp .Or (b :: rest) pos) (r.set iG (.gs gl')) k ∧ Pk k gl') (h2 : ∀ gl', Pa true gl' → Pk true gl') : ETg X B W iG (.BoolOp .Or (a :: b :: rest) pos) r Pk := by
  obtain ⟨t, p, q⟩ := h
  refine ⟨_, (pw_or p (wW_ok (e := .BoolOp .Or (b :: rest) pos))).pt, fun H σ S Q z => q H σ S _ fun k gl' H' S' hk => ?_⟩
  cases k with
  | true => exact iteT (z true gl' H' S' (h2 gl' hk))
  | false =>
    obtain ⟨k2, ⟨t', p', q'⟩, hk2⟩ := hb gl' hk
    exact iteF ⟨t', p', q' H' σ S' _ fun H2 s2 => z k2 gl' H2 (S'.mono s2) hk2⟩
theorem etgAndW {Pa Pk : Bool → List (Addr × Nd) → Prop} (h : ETg X B W iG a r Pa) (hb : ∀ gl', Pa true gl' → ∃ k, EW X B (.BoolOp .And (b :: rest) pos) (r.set iG (.gs gl')) k ∧ Pk k gl') (h2 : ∀ gl', Pa false gl' → Pk false gl') : ETg X B W iG (.BoolOp .And (a :: b :: rest) pos) r Pk := by
  obtain ⟨t, p, q⟩ := h
  refine ⟨_, (pw_and p (wW_ok (e := .BoolOp .And (b :: rest) pos))).pt, fun H σ S Q z => q H σ S _ fun k gl' H' S' hk => ?_⟩
  cases k with
  | false => exact iteF (z false gl' H' S' (h2 gl' hk))
  | true =>
    obtain ⟨k2, ⟨t', p', q'⟩, hk2⟩ := hb gl' hk
    exact iteT ⟨t', p', q' H' σ S' _ fun H2 s2 => z k2 gl' H2 (S'.mono s2) hk2⟩
def rInT (K : PySem.W.Frag) : R2 := fun x y H Q => ∃ d ds, Dp K H x d ∧ Dp K H y (.tuple ds) ∧ SeqAt.shaped d = true ∧ SeqAt.shaped (.tuple ds) = true ∧ Q (.bl (ds.any fun z => PyData.eqv z d)) H
theorem op_inT (hu : X.A.units + 65 < cLine) : OpR X (compareOp .In) (rInT X.K) := by
  intro pins s σ H x y v u Q I rx ry h
  obtain ⟨d, ds, hd, he, sd, se, q⟩ := h
  obtain ⟨as, r1⟩ := Dp.reads I d x v hd rx
  obtain ⟨bs, r2⟩ := Dp.reads I (.tuple ds) y u he ry
  exact SeqAt.in_tuple_reads r2 r1 (SeqAt.canLay_of_shaped se) (SeqAt.canLay_of_shaped sd) (PyProof.Rows.room_in_shaped sd hu) ⟨.bl _, H, I, rfl, q⟩
theorem cv_inT {dx : D} (hu : X.A.units + 65 < cLine) (h1 : Shp 64 dx) (h2 : Shp 64 (.tuple ds)) : CV X .In dx (.tuple ds) (ds.any fun z => PyData.eqv z dx) :=
  ⟨_, op_inT hu, fun H x y rx ry Q q => ⟨dx, ds, rx.dp h1, ry.dp h2, h1.shaped, h2.shaped, q⟩⟩
end
section
variable {X : Cx} {B : Bx} {W : WX} {P : Po} {r : List Sl} {e : Expr} {rest : List Stmt} {ds : List D} {pos pos' : Pos} {k iG : Nat} {x : Str} {a : Addr} {gl : List (Addr × Nd)}
/-- a reference, with ghosts in sight -/
theorem eoR (h : ER X B e r a) (hG : r[iG]? = some (.gs gl)) : EOb X B W iG e r (fun s gl' => s = .rf a ∧ gl' = gl) (fun _ _ => False) := by
  obtain ⟨t, p, q⟩ := h
  refine ⟨_, p, fun H σ S Q z _ => q H σ S _ fun H1 s1 => ?_⟩
  have e : r.set iG (.gs gl) = r := set_self hG
  exact z (.rf a) (.ref a) gl H1 (by rw [e]; exact S.mono s1) rfl ⟨rfl, rfl⟩
/-- a name for a new list that the ghosts keep -/
theorem sv_newG (i iG : Nat) (g : Go X W k) (he : EN X B e r (fun l => .ol l ds)) (hG : r[iG]? = some (.gs gl)) (h : ∀ l, SV X B W rest ((r.set iG (.gs (gl ++ [(l, Nd.ls (ds.map It.da))]))).set i (.rf l)) P) (hi : X.N[i]? = some x := by rfl) (hx : Loc X.env.scope x := by first | exact Or.inl rfl | exact Or.inr rfl)
    (hs : swapsWith e (some (.Name x pos')) pos.line X.env = pure false := by rfl) (hf : X.fn x = true ∨ X.env.scope.names.lookup x = some .local := by first | exact .inl rfl | exact .inr rfl) : SV X B W (.Assign [.Name x pos'] e pos :: rest) r P := fun H σ E S kt => by
  obtain ⟨te, p, q⟩ := he
  refine ⟨_, pss_cons (ps_set g.nd hi hx p hs hf) wS_ok, q H σ S _ fun l ob H1 s1 hl _ hv => ?_⟩
  obtain ⟨e0, vs, e1, ra⟩ := hv
  have eo : ob = .lst vs := by
    have : upd H1 l ob l = some (.lst vs) := e1
    rw [upd_same] at this
    exact Option.some.inj this
  subst eo
  have S1 := (S.mono s1).gadd (iG := iG) hG hl (RpA.its ra)
  exact h l _ _ E (S1.set (s := .rf l) rfl rfl) kt
theorem sv_asgLcG (i iG : Nat) {elt : Expr} {gs : List Comprehension} {scope : Scope} {lp : Pos} (he : LcD X B (.ListComp elt gs scope lp) r (.list ds)) (hG : r[iG]? = some (.gs gl)) (h : ∀ l, SV X B W rest ((r.set iG (.gs (gl ++ [(l, Nd.ls (ds.map It.da))]))).set i (.rf l)) P) (hi : X.N[i]? = some x := by rfl) (hx : X.env.scope.names.lookup x = some .local := by rfl)
    (hk : X.env.scope.kind = .function := by rfl) (hl : (pos'.line == lp.line) = true := by rfl) (ha : (scope.names.any fun (n, k) => n == x && (k == .local || k == .cell)) = false := by rfl) : SV X B W (.Assign [.Name x pos'] (.ListComp elt gs scope lp) pos :: rest) r P := fun H σ E S kt => by
  obtain ⟨te, _, p, q⟩ := he
  refine ⟨_, pss_cons (p i x pos' pos hi hx (sw_true hk hx hl ha)) wS_ok, q H σ S _ fun Dl H1 H' acc ds' ed s1 hD S1 s2 p2 p3 => ?_⟩
  cases ed
  have e1 : ∀ b, b ≠ Dl → (fun b => if b = Dl then none else H' b) b = H' b := fun b hb => if_neg hb
  have s3 : Same H1 (fun b => if b = Dl then none else H' b) := fun b u eb => by
    rw [e1 b (ne_of_none eb hD)]; exact s2 b u eb
  have e2 : upd (fun b => if b = Dl then none else H' b) Dl (.lst acc) = H' := by
    funext b
    by_cases hb : b = Dl
    · subst hb; rw [upd_same, p2]
    · rw [upd_ne hb]; exact if_neg hb
  have ra : RpA X.K (hid B r (fun b => if b = Dl then none else H' b)) acc ds := p3.mono fun b u eb => by
    by_cases hb : b = Dl
    · subst hb; rw [hide_in List.mem_cons_self] at eb; cases eb
    · by_cases hb2 : b ∈ own r ++ B.ps
      · rw [hide_in (List.mem_cons_of_mem _ hb2)] at eb; cases eb
      · rw [hide_out (fun z => (List.mem_cons.mp z).elim hb hb2)] at eb
        refine .inl ?_
        show hide _ (own r ++ B.ps) b = _
        rw [hide_out hb2]; exact (if_neg hb).trans eb
  have S3 := (S.mono (s1.trans s3)).gadd (iG := iG) hG (if_pos rfl) (RpA.its ra)
  rw [e2] at S3
  exact h Dl _ _ E (S3.set (s := .rf Dl) rfl rfl) kt
/-- a new list, among the ghosts -/
theorem eoNw (he : EN X B e r (fun l => .ol l ds)) (hG : r[iG]? = some (.gs gl)) : EOb X B W iG e r (fun s gl' => ∃ l, s = .rf l ∧ gl' = gl ++ [(l, Nd.ls (ds.map It.da))]) (fun _ _ => False) := by
  obtain ⟨te, p, q⟩ := he
  refine ⟨_, p, fun H σ S Q z _ => q H σ S _ fun l ob H1 s1 hl _ hv => ?_⟩
  obtain ⟨e0, vs, e1, ra⟩ := hv
  have eo : ob = .lst vs := by
    have : upd H1 l ob l = some (.lst vs) := e1
    rw [upd_same] at this
    exact Option.some.inj this
  subst eo
  exact z (.rf l) (.ref l) _ _ ((S.mono s1).gadd (iG := iG) hG hl (RpA.its ra)) rfl ⟨l, rfl, rfl⟩
/-- o.m, a property that makes ghosts -/
theorem eoPropM {o : Expr} {p C dx : Addr} {fs : List (Str × It)} {m : Str} {kk : Nat} {c : CtM} {g1 g2 gr : List (Addr × Nd)} {Po2 Po3 : Rs → List (Addr × Nd) → Prop} (iG : Nat) (g : Go X W kk) (ho : ER X B o r p) (hI : InG B r (p, .ob C dx fs)) (cl : Cls X.K C) (M : PrpM X.prog X.w B.ts X.K X.mg X.base C m k c) (hk : k + 1 ≤ kk) (hG : r[iG]? = some (.gs gl)) (hp : gl.Perm (g1 ++ g2)) (hr : ∀ x ∈ gr, x ∈ g2 ∨ x ∈ B.gr ∨ InO r x) (hc : c [.rf p] gr g1 Po2 (fun _ _ => False))
    (h1 : ∀ s g', Po2 s g' → Po3 s (g' ++ g2)) (hab : attributeBase o m X.env (eval o X.env) = eval o X.env := by rfl) : EOb X B W iG (.Attribute o m pos) r Po3 (fun _ _ => False) := by
  obtain ⟨pr, f, fd, ps, F, hm, hb⟩ := M
  obtain ⟨te, pp, kt⟩ := ho
  refine ⟨_, pe_prop (E := fun _ _ _ => False) pp cl hm F (g.hr.mono hk) hb .nil passL hab, fun H σ S Q q qx => kt H σ S _ fun H1 s1 => ?_⟩
  obtain ⟨vs, e1, e2, z⟩ := hI.ok (S.mono s1)
  refine ⟨p, dx, vs, rfl, e1, ?_⟩
  exact spM_own (S.mono s1) hG hp hr (.cons (i := .rf p) rfl .nil) hc (fun s v g' H' S' ro ho => q s v _ H' S' ro (h1 s g' ho)) fun _ _ _ _ hx => hx.elim
end
section
variable {P : Program} {w : World} {T : List Addr} {K : PySem.W.Frag} {mg : Str → Option Value} {base : Heap} {x : Str} {f C : Addr} {fd : FuncData} {ps ks : List Str} {k n : Nat} {c : CtM} {dvs : List V} {dus : List Value} {dd : List D}
/-- defaults ahead of the keywords that are given -/
theorem calM_ofR (F : FnOk P w K mg base (L2.CX P w) k f fd ps (spM T K c)) (hm : mg x = some (.ref f)) (hk : PySem.W.keepIn K (.ref f) = true) (kb : KBn K fd ps n ks (fun us ws => us ++ (dus ++ ws)) (fun vs zs => vs ++ (dvs ++ zs))) (hd : RpA K (fun _ => none) dvs dd) : CalM P w T K mg base x k c n ks (fun a b => a ++ (dd.map It.da ++ b)) :=
  ⟨f, fd, ps, _, _, F, hm, hk, kb, fun Hh vs zs its iks _ _ A B => A.app ((RpA.its (hd.mono fun _ _ e => by cases e)).app B)⟩
theorem makM_ofR (F : FnOk P w K mg base (L2.CX P w) k f fd ps (spM T K c)) (hM : Mk K C f) (hm : mg x = some (.ref C)) (kb : KBn K fd ps (n + 1) ks (fun us ws => us ++ (dus ++ ws)) (fun vs zs => vs ++ (dvs ++ zs))) (hd : RpA K (fun _ => none) dvs dd) : MakM P w T K mg base x C k c n ks (fun a b => a ++ (dd.map It.da ++ b)) :=
  ⟨f, fd, ps, _, _, F, hM, hm, kb, fun Hh vs zs its iks _ _ A B => A.app ((RpA.its (hd.mono fun _ _ e => by cases e)).app B)⟩
end
end Tp

namespace Tp
open PySem L2
/-! ### dicts among the ghosts -/
section
variable {K : PySem.W.Frag} {Hh Hh' H H' : Hp}
def dcD (kvs : List (Key × D)) : List (Key × It) := kvs.map fun x => (x.1, It.da x.2)
def lkI : List (Key × It) → Key → Option It
  | [], _ => none
  | (k, d) :: r, q => if k = q then some d else lkI r q
def putI2 (kvs : List (Key × It)) (k : Key) (d : It) : List (Key × It) :=
  if (kvs.any fun x => decide (x.1 = k)) = true then kvs.map (fun x => if x.1 = k then (x.1, d) else x) else kvs ++ [(k, d)]
def dropI (kvs : List (Key × It)) (k : Key) : List (Key × It) := kvs.filter fun x => decide (x.1 ≠ k)
theorem ItK.das : ∀ {us : List (Key × V)} {kvs : List (Key × D)}, ItK K Hh us (dcD kvs) → RpK K Hh us kvs
  | us, [], h => by cases h; exact .nil
  | us, (k, d) :: kvs, h => by
    cases h with
    | cons a b => exact .cons a (ItK.das b)
theorem RpK.its : ∀ {us : List (Key × V)} {kvs : List (Key × D)}, RpK K Hh us kvs → ItK K Hh us (dcD kvs)
  | _, _, .nil => .nil
  | _, _, .cons a b => .cons a b.its
theorem ItK.find {k : Key} : ∀ {us : List (Key × V)} {kvs : List (Key × It)}, ItK K Hh us kvs → (valV us k = Option.none ∧ lkI kvs k = Option.none) ∨ ∃ v d, valV us k = some v ∧ lkI kvs k = some d ∧ ItOk K Hh v d
  | _, _, .nil => .inl ⟨rfl, rfl⟩
  | _, _, .cons (k := q) (v := v) (vs := us) (i := d) (is := kvs) h a => by
    by_cases e : q = k
    · refine .inr ⟨v, d, valV_pos e, ?_, h⟩
      unfold lkI
      exact if_pos e
    · rw [valV_neg (p := (q, v)) e, show lkI ((q, d) :: kvs) k = lkI kvs k from if_neg e]
      exact ItK.find a
theorem ItK.keys {κ : Type} {us : List (κ × V)} {kvs : List (κ × It)} (h : ItK K Hh us kvs) : us.map (·.1) = kvs.map (·.1) := by
  induction h with
  | nil => rfl
  | cons _ _ ih => rw [List.map_cons, List.map_cons, ih]
theorem ItK.any {us : List (Key × V)} {kvs : List (Key × It)} (h : ItK K Hh us kvs) (p : Key → Bool) : (us.any fun x => p x.1) = kvs.any fun x => p x.1 := by
  have e := congrArg (List.any · p) h.keys
  simpa [List.any_map, Function.comp_def] using e
theorem ItK.mapD {k : Key} {v : V} {d : It} (hv : ItOk K Hh v d) : ∀ {us : List (Key × V)} {kvs : List (Key × It)}, ItK K Hh us kvs → ItK K Hh (us.map fun x => if x.1 = k then (x.1, v) else x) (kvs.map fun x => if x.1 = k then (x.1, d) else x)
  | _, _, .nil => .nil
  | _, _, .cons (k := q) (v := w) (vs := us) (i := e) (is := kvs) h a => by
    by_cases eq : q = k
    · rw [List.map_cons, List.map_cons, if_pos eq, if_pos eq]
      exact .cons hv (ItK.mapD hv a)
    · rw [List.map_cons, List.map_cons, if_neg eq, if_neg eq]
      exact .cons h (ItK.mapD hv a)
theorem ItK.app : ∀ {us : List (Key × V)} {kvs : List (Key × It)} {ws : List (Key × V)} {es : List (Key × It)}, ItK K Hh us kvs → ItK K Hh ws es → ItK K Hh (us ++ ws) (kvs ++ es)
  | _, _, _, _, .nil, b => b
  | _, _, _, _, .cons h a, b => .cons h (ItK.app a b)
theorem ItK.putK {k : Key} {v : V} {d : It} {us : List (Key × V)} {kvs : List (Key × It)} (h : ItK K Hh us kvs) (hv : ItOk K Hh v d) : ItK K Hh (L2.putK us k v) (putI2 kvs k d) := by
  unfold L2.putK putI2
  have e := h.any fun x => decide (x = k)
  rw [show (us.any fun kv => decide (kv.1 = k)) = kvs.any fun x => decide (x.1 = k) from e]
  by_cases c : (kvs.any fun x => decide (x.1 = k)) = true
  · rw [if_pos c, if_pos c]
    exact h.mapD hv
  · rw [if_neg c, if_neg c]
    exact h.app (.cons hv .nil)
theorem ItK.drop {k : Key} : ∀ {us : List (Key × V)} {kvs : List (Key × It)}, ItK K Hh us kvs → ItK K Hh (dropK us k) (dropI kvs k)
  | _, _, .nil => .nil
  | _, _, .cons (k := q) (v := w) (vs := us) (i := e) (is := kvs) h a => by
    have ih := ItK.drop (k := k) a
    unfold dropK dropI at ih ⊢
    by_cases eq : q = k
    · rw [List.filter_cons_of_neg (by simp [eq]), List.filter_cons_of_neg (by simp [eq])]
      exact ih
    · rw [List.filter_cons_of_pos (by simp [eq]), List.filter_cons_of_pos (by simp [eq])]
      exact .cons h ih
theorem ItK.at {κ : Type} : ∀ {us : List (κ × V)} {kvs : List (κ × It)} {i : Nat} {k : κ} {v : V}, ItK K Hh us kvs → us[i]? = some (k, v) → ∃ t, kvs[i]? = some (k, t) ∧ ItOk K Hh v t
  | _, _, _, _, _, .nil, h => by simp at h
  | _, _, 0, _, _, .cons a b, h => by simp at h; obtain ⟨h1, h2⟩ := h; subst h1 h2; exact ⟨_, rfl, a⟩
  | _, _, i + 1, _, _, .cons a b, h => by
    obtain ⟨t, h1, h2⟩ := ItK.at (i := i) b (by simpa using h)
    exact ⟨t, by simpa using h1, h2⟩
theorem dcD_put (kvs : List (Key × D)) (k : Key) (d : D) : putI2 (dcD kvs) k (.da d) = dcD (putD kvs k d) := by
  have e : ((dcD kvs).any fun x => decide (x.1 = k)) = kvs.any fun x => decide (x.1 = k) := by
    unfold dcD
    rw [List.any_map]; rfl
  unfold putI2 putD
  rw [e]
  split
  · unfold dcD
    rw [List.map_map, List.map_map]
    refine List.map_congr_left fun x _ => ?_
    show (if x.1 = k then (x.1, It.da d) else (x.1, It.da x.2)) = (fun y : Key × D => (y.1, It.da y.2)) (if x.1 = k then (x.1, d) else x)
    split <;> rfl
  · unfold dcD
    rw [List.map_append]; rfl
/-- what one owns, the others apart -/
theorem own_perm_set : ∀ {r : List Sl} {i : Nat} {s : Sl}, i < r.length → (own (r.set i s)).Perm (ownOf s ++ own (r.set i .no))
  | [], _, _, h => absurd h (Nat.not_lt_zero _)
  | a :: r, 0, s, _ => .refl _
  | a :: r, i + 1, s, h => by
    have ih := own_perm_set (r := r) (i := i) (s := s) (Nat.lt_of_succ_lt_succ h)
    show (ownOf a ++ own (r.set i s)).Perm (ownOf s ++ (ownOf a ++ own (r.set i .no)))
    refine (ih.append_left _).trans ?_
    rw [← List.append_assoc, ← List.append_assoc]
    exact (List.perm_append_comm).append_right _
end
section
variable {K : PySem.W.Frag} {B : Bx} {r r' : List Sl} {H H' : Hp} {σ σ' : St} {iG m : Nat} {gl gl' : List (Addr × Nd)} {l : Addr} {kvs : List (Key × It)}
def Bx.lk (B : Bx) (H0 : Hp) (l : Addr) (kvs : List (Key × It)) : Bx := ⟨H0, l :: B.ps, B.ts, (l, .fz kvs) :: B.gr⟩
theorem SOk.lockG (S : SOk K B r H σ) (hG : r[iG]? = some (.gs gl)) (hj : gl[m]? = some (l, .dc kvs)) : ∃ us, H l = some (.dK us) ∧ ItK K (hid B r H) us kvs ∧ (own r).Perm (l :: own (r.set iG (.gs (gl.eraseIdx m)))) ∧
    ∀ od, SOk K (B.lk (hide (upd H l (.frz od (.dK us))) (own (r.set iG (.gs (gl.eraseIdx m))))) l kvs) (r.set iG (.gs (gl.eraseIdx m))) (upd H l (.frz od (.dK us))) σ := by
  obtain ⟨G, nd⟩ := S.ghosts hG
  obtain ⟨us, e1, ik⟩ := G.get hj
  have hi := (List.getElem?_eq_some_iff.mp hG).1
  have pg : gl.Perm ((l, .dc kvs) :: gl.eraseIdx m) := erase_perm hj
  have po : (own r).Perm (l :: own (r.set iG (.gs (gl.eraseIdx m)))) := by
    have p1 := own_perm_set (r := r) (i := iG) (s := .gs gl) hi
    rw [set_self hG] at p1
    refine p1.trans ?_
    refine ((gown_perm pg).append_right _).trans ?_
    exact ((own_perm_set (r := r) (i := iG) (s := .gs (gl.eraseIdx m)) hi).symm).cons l
  have nd2 : (l :: own (r.set iG (.gs (gl.eraseIdx m)))).Nodup := po.nodup_iff.mp S.nd
  obtain ⟨nl, nd3⟩ := List.nodup_cons.mp nd2
  have mem : ∀ q, q ∈ own r ↔ q = l ∨ q ∈ own (r.set iG (.gs (gl.eraseIdx m))) := fun q => by rw [po.mem_iff, List.mem_cons]
  have lps : l ∉ B.ps := fun z => S.old l z (S.new l ((mem l).mpr (.inl rfl)))
  refine ⟨us, e1, ik, po, fun od => ?_⟩
  have heq : hide (upd H l (.frz od (.dK us))) (own (r.set iG (.gs (gl.eraseIdx m))) ++ l :: B.ps) = hid B r H := by
    funext q
    show hide _ _ q = hide H (own r ++ B.ps) q
    by_cases hq : q ∈ own r ++ B.ps
    · rw [hide_in hq]
      refine hide_in ?_
      rcases List.mem_append.mp hq with z | z
      · rcases (mem q).mp z with y | y
        · exact List.mem_append_right _ (y ▸ List.mem_cons_self)
        · exact List.mem_append_left _ y
      · exact List.mem_append_right _ (List.mem_cons_of_mem _ z)
    · have nq : q ≠ l := fun z => hq (List.mem_append_left _ ((mem q).mpr (.inl z)))
      rw [hide_out hq, hide_out fun z => ?_, upd_ne nq]
      rcases List.mem_append.mp z with y | y
      · exact hq (List.mem_append_left _ ((mem q).mpr (.inr y)))
      · rcases List.mem_cons.mp y with y | y
        · exact nq y
        · exact hq (List.mem_append_right _ y)
  have keep : ∀ q, q ≠ l → upd H l (.frz od (.dK us)) q = H q := fun q hq => upd_ne hq
  have hbq : ∀ H0, hid (B.lk H0 l kvs) (r.set iG (.gs (gl.eraseIdx m))) (upd H l (.frz od (.dK us))) = hid B r H := fun _ => heq
  refine ⟨hide_same, fun p hp => ?_, fun p hp => hide_in hp, nd3, by rw [List.length_set]; exact S.len, fun i t e => ?_, fun t ht => ?_, ⟨⟨us, ⟨od, upd_same⟩, by rw [hbq]; exact ik⟩, ?_⟩, fun p hp => ?_⟩
  · show hide _ _ p ≠ none
    rcases List.mem_cons.mp hp with z | z
    · subst z; rw [hide_out nl, upd_same]; exact fun z => nomatch z
    · have np : p ∉ own r := fun y => S.old p z (S.new p y)
      rw [hide_out fun y => np ((mem p).mpr (.inr y)), keep p fun y => lps (y ▸ z)]
      exact S.dom p (List.mem_append_right _ z)
  · rw [hbq]
    by_cases hij : iG = i
    · subst hij
      rw [List.getElem?_set_self hi] at e
      cases e
      have G2 : GOk K (hid B r H) H (gl.eraseIdx m) := (GOk.perm pg G).2
      refine GOk.mono (Same.refl _) (fun p hp => keep p fun z => nl ?_) G2
      rw [← z]
      exact mem_own (List.getElem?_set_self hi) hp
    · rw [List.getElem?_set_ne hij] at e
      refine (S.sl i t e).mono (Same.refl _) fun p hp => keep p fun z => ?_
      exact nl (z ▸ mem_own (i := i) (by rw [List.getElem?_set_ne hij]; exact e) hp)
  · exact (S.tb t ht).ext fun o eo => .inl ((keep t ((S.tb t ht).ne e1 trivial)).trans eo)
  · rw [hbq]
    exact GOk.mono (Same.refl _) (fun p hp => keep p fun z => lps (z ▸ S.gp p hp)) S.gr
  · have hp : p ∈ gown ((l, .fz kvs) :: B.gr) := hp
    rcases List.mem_cons.mp hp with z | z
    · exact z ▸ List.mem_cons_self
    · exact List.mem_cons_of_mem _ (S.gp p z)
theorem SOk.unlockG {us : List (Key × V)} {od : Obj} (S : SOk K B r H σ) (e1 : H l = some (.dK us)) (po : (own r).Perm (l :: own (r.set iG (.gs (gl.eraseIdx m)))))
    (S' : SOk K (B.lk (hide (upd H l (.frz od (.dK us))) (own (r.set iG (.gs (gl.eraseIdx m))))) l kvs) r' H' σ') (hG' : r'[iG]? = some (.gs gl')) :
    H' l = some (.frz od (.dK us)) ∧ SOk K B (r'.set iG (.gs (gl' ++ [(l, .dc kvs)]))) (upd H' l (.dK us)) σ' := by
  obtain ⟨nl, nd3⟩ := List.nodup_cons.mp (po.nodup_iff.mp S.nd)
  have mem : ∀ q, q ∈ own r ↔ q = l ∨ q ∈ own (r.set iG (.gs (gl.eraseIdx m))) := fun q => by rw [po.mem_iff, List.mem_cons]
  have h0 : (B.lk (hide (upd H l (.frz od (.dK us))) (own (r.set iG (.gs (gl.eraseIdx m))))) l kvs).H0 l = some (.frz od (.dK us)) := by
    show hide _ _ l = _
    rw [hide_out nl, upd_same]
  have e2 : H' l = some (.frz od (.dK us)) := (S'.ex l _ h0).nt trivial
  refine ⟨e2, ?_⟩
  have nl' : l ∉ own r' := fun z => by have := S'.new l z; rw [h0] at this; cases this
  have hi := (List.getElem?_eq_some_iff.mp hG').1
  have pr : (own (r'.set iG (.gs (gl' ++ [(l, .dc kvs)])))).Perm (l :: own r') := by
    refine (own_perm_set (r := r') (i := iG) hi).trans ?_
    have p1 := own_perm_set (r := r') (i := iG) (s := .gs gl') hi
    rw [set_self hG'] at p1
    refine List.Perm.trans ?_ (p1.symm.cons l)
    show (gown (gl' ++ [(l, .dc kvs)]) ++ own (r'.set iG .no)).Perm _
    rw [gown_app]
    exact (List.perm_append_comm (l₁ := gown gl') (l₂ := [l])).append_right _
  have mem' : ∀ q, q ∈ own (r'.set iG (.gs (gl' ++ [(l, .dc kvs)]))) ↔ q = l ∨ q ∈ own r' := fun q => by rw [pr.mem_iff, List.mem_cons]
  have Hex : ∀ a o, B.H0 a = some o → Ext1 o (H' a) := fun a o e => by
    have na : a ∉ own r := fun z => by rw [S.new a z] at e; cases e
    have nal : a ≠ l := fun z => na ((mem a).mpr (.inl z))
    refine (S.ex a o e).trans fun u eu => ?_
    refine S'.ex a u ?_
    show hide _ _ a = _
    rw [hide_out fun z => na ((mem a).mpr (.inr z)), upd_ne nal]
    exact eu
  have heq : hid B (r'.set iG (.gs (gl' ++ [(l, .dc kvs)]))) (upd H' l (.dK us)) = hide H' (own r' ++ l :: B.ps) := by
    funext q
    show hide _ (own (r'.set iG (.gs (gl' ++ [(l, .dc kvs)]))) ++ B.ps) q = _
    by_cases hq : q ∈ own r' ++ l :: B.ps
    · rw [hide_in hq]
      refine hide_in ?_
      rcases List.mem_append.mp hq with z | z
      · exact List.mem_append_left _ ((mem' q).mpr (.inr z))
      · rcases List.mem_cons.mp z with z | z
        · exact List.mem_append_left _ ((mem' q).mpr (.inl z))
        · exact List.mem_append_right _ z
    · have nq : q ≠ l := fun z => hq (List.mem_append_right _ (z ▸ List.mem_cons_self))
      rw [hide_out hq, hide_out fun z => ?_, upd_ne nq]
      rcases List.mem_append.mp z with y | y
      · rcases (mem' q).mp y with y | y
        · exact nq y
        · exact hq (List.mem_append_left _ y)
      · exact hq (List.mem_append_right _ (List.mem_cons_of_mem _ y))
  have keep : ∀ q, q ≠ l → upd H' l (.dK us) q = H' q := fun q hq => upd_ne hq
  have inB : l ∈ own r := (mem l).mpr (.inl rfl)
  have lps : l ∉ B.ps := fun z => S.old l z (S.new l inB)
  obtain ⟨⟨us2, ⟨od2, e3⟩, ik⟩, G3⟩ := S'.gr
  rw [e2] at e3
  cases e3
  refine ⟨fun a o e => ?_, S.old, fun p hp => ?_, pr.nodup_iff.mpr (List.nodup_cons.mpr ⟨nl', S'.nd⟩), by rw [List.length_set]; exact S'.len, fun i t e => ?_, fun t ht => ?_, ?_, S.gp⟩
  · have nal : a ≠ l := fun z => by rw [z, S.new l inB] at e; cases e
    rw [keep a nal]; exact Hex a o e
  · rcases (mem' p).mp hp with z | z
    · rw [z]; exact S.new l inB
    · cases e0 : B.H0 p with
      | none => rfl
      | some o =>
        have na : p ∉ own r := fun y => by rw [S.new p y] at e0; cases e0
        have np : p ≠ l := fun y => na ((mem p).mpr (.inl y))
        have h1 := S'.new p z
        obtain ⟨u, eu⟩ := (S.ex p o e0).is
        rw [show (B.lk (hide (upd H l (.frz od (.dK us))) (own (r.set iG (.gs (gl.eraseIdx m))))) l kvs).H0 p = some u from by
          show hide _ _ p = _
          rw [hide_out fun y => na ((mem p).mpr (.inr y)), upd_ne np]; exact eu] at h1
        cases h1
  · rw [heq]
    by_cases hij : iG = i
    · subst hij
      rw [List.getElem?_set_self hi] at e
      cases e
      show GOk K _ _ (gl' ++ [(l, .dc kvs)])
      refine GOk.app (GOk.mono (Same.refl _) (fun p hp => keep p fun z => nl' (z ▸ mem_own hG' hp)) (S'.sl iG _ hG')) ⟨⟨us, upd_same, ik⟩, trivial⟩
    · rw [List.getElem?_set_ne hij] at e
      exact (S'.sl i t e).mono (Same.refl _) fun p hp => keep p fun z => nl' (z ▸ mem_own e hp)
  · have T := S'.tb t ht
    exact T.ext fun o eo => .inl ((keep t (T.ne e2 trivial)).trans eo)
  · rw [heq]
    exact GOk.mono (Same.refl _) (fun p hp => keep p fun z => lps (z ▸ S.gp p hp)) G3
end
section
variable {X : Cx} {B : Bx} {W : WX} {P : Po} {r q : List Sl} {e a b o f tg : Expr} {es : List Expr} {rest body orelse : List Stmt} {d : D} {ds : List D} {pos pos' p1 apos cpos : Pos} {k kk n iG m : Nat} {x : Str} {l p : Addr} {gl : List (Addr × Nd)} {kvs : List (Key × It)} {key : Key} {Po2 Po3 : Rs → List (Addr × Nd) → Prop}
/-! reading a dict among the ghosts (or one that is walked) -/
def ED (X : Cx) (B : Bx) (e : Expr) (r : List Sl) (l : Addr) (kvs : List (Key × It)) : Prop :=
  ∃ te, PE X e te ∧ ∀ H σ, SOk X.K B r H σ → ∀ Q : VK, (∀ us H', Same H H' → (∃ ob, H' l = some ob ∧ NT ob ∧ ∀ H2, H2 l = some ob → Rd H2 l (.dK us)) → ItK X.K (hid B r H') us kvs → Q (.ref l) H') → te σ H Q
theorem eddI (he : ER X B e r l) (hG : InG B r (l, Nd.dc kvs)) : ED X B e r l kvs := by
  obtain ⟨t, pp, q⟩ := he
  refine ⟨t, pp, fun H σ S Q z => q H σ S _ fun H1 s1 => ?_⟩
  obtain ⟨us, e1, ik⟩ := hG.ok (S.mono s1)
  exact z us H1 s1 ⟨_, e1, trivial, fun H2 e2 => .inl e2⟩ ik
theorem eddF (he : ER X B e r l) (hG : InG B r (l, Nd.fz kvs)) : ED X B e r l kvs := by
  obtain ⟨t, pp, q⟩ := he
  refine ⟨t, pp, fun H σ S Q z => q H σ S _ fun H1 s1 => ?_⟩
  obtain ⟨us, ⟨od, e1⟩, ik⟩ := hG.ok (S.mono s1)
  exact z us H1 s1 ⟨_, e1, trivial, fun H2 e2 => .inr ⟨od, e2⟩⟩ ik
theorem EK.dcI {kvd : List (Key × D)} (he : ER X B e r l) (hG : InG B r (l, Nd.dc (dcD kvd))) : EK X B e r kvd := by
  obtain ⟨t, pp, q⟩ := he
  refine ⟨t, pp, fun H σ S Q z => q H σ S _ fun H1 s1 => ?_⟩
  obtain ⟨us, e1, ik⟩ := hG.ok (S.mono s1)
  exact z l us H1 s1 e1 ik.das
theorem etEDin (g : Go X W kk) (he : EV X B e r (kD key)) (ho : ED X B o r l kvs) (hm : behindInMarks CmpOp.In o = false := by rfl) : ET X B (.Compare e [.In] [o] pos) r (lkI kvs key).isSome := by
  obtain ⟨t, pp, kp⟩ := ho
  obtain ⟨t', pp', kp'⟩ := he
  refine ⟨_, pt_cmp (pc_din (hu_of g.hr) pp' pp) hm, fun H σ S Q q => kp' H σ S _ fun v H1 s1 w => kp H1 σ (S.mono s1) _ fun us H2 s2 y z => ?_⟩
  obtain ⟨ob, e1, _, y⟩ := y
  rw [w.key]
  refine ⟨l, _, rfl, .inl ⟨us, key, y H2 e1, rfl, rfl⟩, ?_⟩
  rcases z.find (k := key) with ⟨h1, h2⟩ | ⟨v', d', h1, h2, h3⟩
  · rw [h1]; refine ⟨_, rfl, ?_⟩; have := q H2 (s1.trans s2); rw [h2] at this; exact this
  · rw [h1]; refine ⟨_, rfl, ?_⟩; have := q H2 (s1.trans s2); rw [h2] at this; exact this
theorem etEDnin (g : Go X W kk) (he : EV X B e r (kD key)) (ho : ED X B o r l kvs) (hm : behindInMarks CmpOp.NotIn o = false := by rfl) : ET X B (.Compare e [.NotIn] [o] pos) r (!(lkI kvs key).isSome) := by
  obtain ⟨t, pp, kp⟩ := ho
  obtain ⟨t', pp', kp'⟩ := he
  refine ⟨_, pt_cmp (pc_dnotin (hu_of g.hr) pp' pp) hm, fun H σ S Q q => kp' H σ S _ fun v H1 s1 w => kp H1 σ (S.mono s1) _ fun us H2 s2 y z => ?_⟩
  obtain ⟨ob, e1, _, y⟩ := y
  rw [w.key]
  refine ⟨l, _, rfl, .inl ⟨us, key, y H2 e1, rfl, rfl⟩, ?_⟩
  rcases z.find (k := key) with ⟨h1, h2⟩ | ⟨v', d', h1, h2, h3⟩
  · rw [h1]; refine ⟨_, rfl, ?_⟩; have := q H2 (s1.trans s2); rw [h2] at this; exact this
  · rw [h1]; refine ⟨_, rfl, ?_⟩; have := q H2 (s1.trans s2); rw [h2] at this; exact this
theorem evEDin (g : Go X W kk) (he : EV X B e r (kD key)) (ho : ED X B o r l kvs) (hm : behindInMarks CmpOp.In o = false := by rfl) : EV X B (.Compare e [.In] [o] pos) r (.bool (lkI kvs key).isSome) := by
  obtain ⟨t, pp, kp⟩ := ho
  obtain ⟨t', pp', kp'⟩ := he
  refine ⟨_, pe_cmp (pc_din (hu_of g.hr) pp' pp) hm, fun H σ S Q q => kp' H σ S _ fun v H1 s1 w => kp H1 σ (S.mono s1) _ fun us H2 s2 y z => ?_⟩
  obtain ⟨ob, e1, _, y⟩ := y
  rw [w.key]
  refine ⟨l, _, rfl, .inl ⟨us, key, y H2 e1, rfl, rfl⟩, ?_⟩
  rcases z.find (k := key) with ⟨h1, h2⟩ | ⟨v', d', h1, h2, h3⟩
  · rw [h1]; refine q _ H2 (s1.trans s2) ?_; rw [h2]; exact .bl _
  · rw [h1]; refine q _ H2 (s1.trans s2) ?_; rw [h2]; exact .bl _
theorem ed_ix (g : Go X W kk) (ho : ED X B o r l kvs) (he : EV X B e r (kD key)) (hs : NoSl e) : ∃ te, PE X (.Subscript o e pos) te ∧ ∀ H σ, SOk X.K B r H σ → ∀ Q : VK, (∀ v t H', Same H H' → lkI kvs key = some t → ItOk X.K (hid B r H') v t → Q v H') → (lkI kvs key).isSome → te σ H Q := by
  obtain ⟨t, pp, kp⟩ := ho
  obtain ⟨t', pp', kp'⟩ := he
  refine ⟨_, pe_dget (hu_of g.hr) pp pp' hs, fun H σ S Q q hk => kp H σ S _ fun us H1 s1 y z => kp' H1 σ (S.mono s1) _ fun v H2 s2 w => ?_⟩
  obtain ⟨ob, e1, nt, y⟩ := y
  rw [w.key]
  have e2 : H2 l = some ob := s2.k e1 nt
  rcases (z.mono (hide_mono s2)).find (k := key) with ⟨h1, h2⟩ | ⟨v', d', h1, h2, h3⟩
  · rw [h2] at hk; cases hk
  · exact ⟨l, v', rfl, .inl ⟨us, key, y H2 e2, rfl, h1.symm⟩, q v' d' H2 (s1.trans s2) h2 h3⟩
theorem evEDix (g : Go X W kk) (ho : ED X B o r l kvs) (he : EV X B e r (kD key)) (hk : lkI kvs key = some (.da d)) (hs : NoSl e := by first | exact fun _ => rfl | exact fun _ _ => rfl) : EV X B (.Subscript o e pos) r d := by
  obtain ⟨te, pp, q⟩ := ed_ix g ho he hs
  refine ⟨te, pp, fun H σ S Q z => q H σ S Q (fun v t H' s1 h1 h2 => ?_) (by rw [hk]; rfl)⟩
  rw [hk] at h1; cases h1
  exact z v H' s1 h2
theorem erEDix (g : Go X W kk) (ho : ED X B o r l kvs) (he : EV X B e r (kD key)) (hk : lkI kvs key = some (.rf p)) (hs : NoSl e := by first | exact fun _ => rfl | exact fun _ _ => rfl) : ER X B (.Subscript o e pos) r p := by
  obtain ⟨te, pp, q⟩ := ed_ix g ho he hs
  refine ⟨te, pp, fun H σ S Q z => q H σ S _ (fun v t H' s1 h1 h2 => ?_) (by rw [hk]; rfl)⟩
  rw [hk] at h1; cases h1
  cases h2
  exact z H' s1
theorem ed_get1 (g : Go X W kk) (ho : ED X B o r l kvs) (he : EV X B e r (kD key)) (hb : attributeBase o "get" X.env (eval o X.env) = eval o X.env) (hl : (apos.endLine == cpos.line) = true) (hst : NSt X e) : ∃ te, PE X (.Call (.Attribute o "get" apos) [e] [] cpos) te ∧ ∀ H σ, SOk X.K B r H σ → ∀ Q : VK, (∀ v t H', Same H H' → lkI kvs key = some t → ItOk X.K (hid B r H') v t → Q v H') → (lkI kvs key = none → ∀ H', Same H H' → Q .non H') → te σ H Q := by
  obtain ⟨t, pp, kp⟩ := ho
  obtain ⟨t', pp', kp'⟩ := he
  refine ⟨_, pe_dget1 (hu_of g.hr) pp pp' (m1_of hst hb hl), fun H σ S Q q q0 => kp H σ S _ fun us H1 s1 y z => ?_⟩
  obtain ⟨ob, e1, nt, y⟩ := y
  refine ⟨l, rfl, .inl ⟨us, y H1 e1⟩, kp' H1 σ (S.mono s1) _ fun v H2 s2 w => ?_⟩
  rw [w.key]
  have e2 : H2 l = some ob := s2.k e1 nt
  refine ⟨_, .inl ⟨us, key, y H2 e2, rfl, rfl⟩, ?_⟩
  rcases (z.mono (hide_mono s2)).find (k := key) with ⟨h1, h2⟩ | ⟨v', d', h1, h2, h3⟩
  · rw [h1]; exact q0 h2 H2 (s1.trans s2)
  · rw [h1]; exact q v' d' H2 (s1.trans s2) h2 h3
theorem evEDgetN (g : Go X W kk) (ho : ED X B o r l kvs) (he : EV X B e r (kD key)) (hk : lkI kvs key = none) (hb : attributeBase o "get" X.env (eval o X.env) = eval o X.env := by rfl) (hl : (apos.endLine == cpos.line) = true := by rfl) (hst : NSt X e := by exact fun _ => rfl) : EV X B (.Call (.Attribute o "get" apos) [e] [] cpos) r .none := by
  obtain ⟨te, pp, q⟩ := ed_get1 g ho he hb hl hst
  refine ⟨te, pp, fun H σ S Q z => q H σ S Q (fun v t H' s1 h1 h2 => ?_) fun _ H' s1 => z .non H' s1 .non⟩
  rw [hk] at h1; cases h1
theorem erEDget (g : Go X W kk) (ho : ED X B o r l kvs) (he : EV X B e r (kD key)) (hk : lkI kvs key = some (.rf p)) (hb : attributeBase o "get" X.env (eval o X.env) = eval o X.env := by rfl) (hl : (apos.endLine == cpos.line) = true := by rfl) (hst : NSt X e := by exact fun _ => rfl) : ER X B (.Call (.Attribute o "get" apos) [e] [] cpos) r p := by
  obtain ⟨te, pp, q⟩ := ed_get1 g ho he hb hl hst
  refine ⟨te, pp, fun H σ S Q z => q H σ S _ (fun v t H' s1 h1 h2 => ?_) fun h _ _ => by rw [hk] at h; cases h⟩
  rw [hk] at h1; cases h1
  cases h2
  exact z H' s1
/-- d.get(k, x), data -/
theorem evEDget2 {d0 d1 : D} (g : Go X W kk) (ho : ED X B o r l kvs) (he : EV X B e r (kD key)) (hf : EV X B f r d0) (h0 : lkI kvs key = none → d1 = d0) (h1 : ∀ t, lkI kvs key = some t → t = .da d1) (hb : attributeBase o "get" X.env (eval o X.env) = eval o X.env := by rfl) (hl : (apos.endLine == cpos.line) = true := by rfl) (hst : NSt X e := by exact fun _ => rfl) (hst2 : NSt X f := by exact fun _ => rfl) : EV X B (.Call (.Attribute o "get" apos) [e, f] [] cpos) r d1 := by
  obtain ⟨t, pp, kp⟩ := ho
  obtain ⟨t', pp', kp'⟩ := he
  obtain ⟨t2, pp2, kp2⟩ := hf
  refine ⟨_, pe_dget2 (hu_of g.hr) pp pp' pp2 ⟨hb, by rw [hst, hst2]; rfl, hl, by rw [hst, hst2]; rfl⟩, fun H σ S Q q => kp H σ S _ fun us H1 s1 y z => ?_⟩
  obtain ⟨ob, e1, nt, y⟩ := y
  refine ⟨l, rfl, .inl ⟨us, y H1 e1⟩, kp' H1 σ (S.mono s1) _ fun v H2 s2 w => kp2 H2 σ ((S.mono s1).mono s2) _ fun v2 H3 s3 w2 => ?_⟩
  rw [w.key]
  have e2 : H3 l = some ob := s3.k (s2.k e1 nt) nt
  refine ⟨_, .inl ⟨us, key, y H3 e2, rfl, rfl⟩, ?_⟩
  rcases ((z.mono (hide_mono s2)).mono (hide_mono s3)).find (k := key) with ⟨j1, j2⟩ | ⟨v', d', j1, j2, j3⟩
  · rw [j1]; refine q v2 H3 ((s1.trans s2).trans s3) ?_; rw [h0 j2]; exact w2
  · rw [j1]
    have := h1 d' j2
    subst this
    exact q v' H3 ((s1.trans s2).trans s3) j3
/-! changing one -/
theorem SOk.dturn {K : PySem.W.Frag} {H : Hp} {σ : St} {us' : List (Key × V)} {kvs' : List (Key × It)} (S : SOk K B r H σ) (hG : r[iG]? = some (.gs gl)) (hj : gl[m]? = some (l, Nd.dc kvs)) (iv : ItK K (hid B r H) us' kvs') :
    SOk K B (r.set iG (.gs (gl.set m (l, Nd.dc kvs')))) (upd H l (.dK us')) σ := by
  obtain ⟨G, nd⟩ := S.ghosts hG
  have hs : gown (gl.set m (l, Nd.dc kvs')) = gown gl := gown_set (n := .dc kvs) (n' := .dc kvs') rfl hj
  have hp : l ∈ gown gl := gown_at hj l (own1_head _ _)
  refine S.gset hG (fun a o ea ha => .inl ((upd_ne fun z => ha (by rw [z]; exact hp)).trans ea)) (by rw [hs]; exact nd) (fun q hq => .inl (hs ▸ hq)) fun hh => ?_
  exact GOk.set (n := .dc kvs) (n' := .dc kvs') hh (fun b hb => upd_ne hb) rfl ⟨_, upd_same, iv.mono hh⟩ nd G hj
/-- d[k] = e, data -/
theorem sv_putG (iG m : Nat) (g : Go X W kk) (ho : ER X B o r l) (hG : r[iG]? = some (.gs gl)) (hj : gl[m]? = some (l, Nd.dc kvs)) (he : EV X B e r d) (hk : EV X B b r (kD key)) (hl : kvs.length < 100000) (h : SV X B W rest (r.set iG (.gs (gl.set m (l, Nd.dc (putI2 kvs key (.da d)))))) P)
    (hs : swapsWith e (some (.Subscript o b pos')) pos.line X.env = pure false := by rfl) : SV X B W (.Assign [.Subscript o b pos'] e pos :: rest) r P := fun H σ E S kt => by
  obtain ⟨t, pt, kp⟩ := he
  obtain ⟨to, po, ko⟩ := ho
  obtain ⟨t', pt', kp'⟩ := hk
  refine ⟨_, pss_cons (ps_dput (hu_of g.hr) po pt' pt hs) wS_ok, kp H σ S _ fun v H1 s1 y => ko H1 σ (S.mono s1) _ fun H2 s2 => kp' H2 σ ((S.mono s1).mono s2) _ fun w H3 s3 u => ?_⟩
  have S3 := ((S.mono s1).mono s2).mono s3
  obtain ⟨us, e1, z⟩ := (S3.ghosts hG).1.get hj
  rw [u.key]
  refine ⟨l, _, rfl, DPut.k e1 (Nat.lt_of_lt_of_le (by rw [z.len]; exact hl) (by decide : 100000 ≤ sizeLine)), ?_⟩
  exact h _ _ E (S3.dturn hG hj (z.putK ((y.mono (hide_mono s2)).mono (hide_mono s3)))) kt
/-- d[k] = f(..), an object -/
theorem sv_putGO (iG : Nat) {Ex : Addr → List (Addr × Nd) → Prop} (g : Go X W kk) (he : EOb X B W iG e r Po2 Ex) (hG : r[iG]? = some (.gs gl))
    (h : ∀ s gl', Po2 s gl' → ∃ c l kvs key m, s = .rf c ∧ ER X B o (r.set iG (.gs gl')) l ∧ EV X B b (r.set iG (.gs gl')) (kD key) ∧ gl'[m]? = some (l, Nd.dc kvs) ∧ kvs.length < 100000 ∧ SV X B W rest (r.set iG (.gs (gl'.set m (l, Nd.dc (putI2 kvs key (.rf c)))))) P) (hxe : ∀ C gl', Ex C gl' → P.ex C (r.set iG (.gs gl')))
    (hs : swapsWith e (some (.Subscript o b pos')) pos.line X.env = pure false := by rfl) : SV X B W (.Assign [.Subscript o b pos'] e pos :: rest) r P := fun H σ E S kt => by
  obtain ⟨tv, pv, kv⟩ := he
  refine ⟨_, pss_cons (ps_dput (hu_of g.hr) (wE_ok (e := o)) (wE_ok (e := b)) pv hs) wS_ok, kv H σ S _ (fun s v gl' H1 S1 ro hP => ?_) fun C gl' H' S' hx => kt.ex C _ σ H' S' (hxe C gl' hx)⟩
  obtain ⟨c, l, kvs, key, m, rfl, ⟨to, po, ko⟩, ⟨t', pt', kp'⟩, hj, hl, hk⟩ := h s gl' hP
  cases ro
  refine ⟨to, po, ko H1 σ S1 _ fun H2 s2 => ⟨t', pt', kp' H2 σ (S1.mono s2) _ fun w H3 s3 u => ?_⟩⟩
  have S3 := (S1.mono s2).mono s3
  have hG2 := get_set (s' := .gs gl') hG
  obtain ⟨us, e1, z⟩ := (S3.ghosts hG2).1.get hj
  rw [u.key]
  refine ⟨l, _, rfl, DPut.k e1 (Nat.lt_of_lt_of_le (by rw [z.len]; exact hl) (by decide : 100000 ≤ sizeLine)), ?_⟩
  have S4 := S3.dturn hG2 hj (z.putK (k := key) (v := .ref c) (d := .rf c) rfl)
  rw [set_set] at S4
  exact hk _ _ E S4 kt
/-- x = d.pop(k), an object -/
theorem sv_popG (i iG m : Nat) (g : Go X W kk) (ho : ER X B o r l) (hG : r[iG]? = some (.gs gl)) (hj : gl[m]? = some (l, Nd.dc kvs)) (hk : EV X B b r (kD key)) (hv : lkI kvs key = some (.rf p)) (h : SV X B W rest ((r.set iG (.gs (gl.set m (l, Nd.dc (dropI kvs key))))).set i (.rf p)) P) (hi : X.N[i]? = some x := by rfl) (hx : Loc X.env.scope x := by first | exact Or.inl rfl | exact Or.inr rfl)
    (hs : swapsWith (.Call (.Attribute o "pop" apos) [b] [] cpos) (some (.Name x pos')) pos.line X.env = pure false := by rfl) (hf : X.fn x = true ∨ X.env.scope.names.lookup x = some .local := by first | exact .inl rfl | exact .inr rfl) (hb : attributeBase o "pop" X.env (eval o X.env) = eval o X.env := by rfl) (hl : (apos.endLine == cpos.line) = true := by rfl) (hst : NSt X b := by exact fun _ => rfl) :
    SV X B W (.Assign [.Name x pos'] (.Call (.Attribute o "pop" apos) [b] [] cpos) pos :: rest) r P := fun H σ E S kt => by
  obtain ⟨to, po, ko⟩ := ho
  obtain ⟨t', pt', kp'⟩ := hk
  refine ⟨_, pss_cons (ps_set g.nd hi hx (pe_dpop1 po pt' (m1_of hst hb hl)) hs hf) wS_ok, ko H σ S _ fun H1 s1 => ?_⟩
  obtain ⟨us0, e0, _⟩ := ((S.mono s1).ghosts hG).1.get hj
  refine ⟨l, rfl, .inl ⟨us0, .inl e0⟩, kp' H1 σ (S.mono s1) _ fun w H2 s2 u => ?_⟩
  have S2 := (S.mono s1).mono s2
  obtain ⟨us, e1, z⟩ := (S2.ghosts hG).1.get hj
  rw [u.key]
  rcases z.find (k := key) with ⟨j1, j2⟩ | ⟨v', d', j1, j2, j3⟩
  · rw [hv] at j2; cases j2
  · rw [hv] at j2; cases j2
    cases j3
    refine ⟨us, key, _, e1, rfl, j1, ?_⟩
    exact h _ _ E ((S2.dturn hG hj z.drop).set (s := .rf p) rfl rfl) kt
/-- a new dict, among the ghosts -/
theorem eoNK {kvd : List (Key × D)} (he : EN X B e r (fun l => .od l kvd)) (hG : r[iG]? = some (.gs gl)) : EOb X B W iG e r (fun s gl' => ∃ l, s = .rf l ∧ gl' = gl ++ [(l, Nd.dc (dcD kvd))]) (fun _ _ => False) := by
  obtain ⟨te, p, q⟩ := he
  refine ⟨_, p, fun H σ S Q z _ => q H σ S _ fun l ob H1 s1 hl _ hv => ?_⟩
  obtain ⟨e0, us, e1, ra⟩ := hv
  have eo : ob = .dK us := by
    have : upd H1 l ob l = some (.dK us) := e1
    rw [upd_same] at this
    exact Option.some.inj this
  subst eo
  have S1 := S.mono s1
  obtain ⟨G, nd⟩ := S1.ghosts hG
  have nl : l ∉ gown gl := fun z => by obtain ⟨u, eu, nt⟩ := GOk.there G z; rw [hl] at eu; cases eu
  have hs : gown (gl ++ [(l, Nd.dc (dcD kvd))]) = gown gl ++ [l] := gown_app _ _
  refine z (.rf l) (.ref l) _ _ (S1.gset hG (fun a o ea ha => .inl ((upd_ne fun z => by rw [z, hl] at ea; cases ea).trans ea)) ?_ (fun q hq => ?_) fun hh => ?_) rfl ⟨l, rfl, rfl⟩
  · rw [hs]
    exact List.nodup_append.mpr ⟨nd, by simp, fun x hx y hy e => nl (by rw [← List.mem_singleton.mp hy, ← e]; exact hx)⟩
  · rw [hs] at hq
    rcases List.mem_append.mp hq with z | z
    · exact .inl z
    · exact .inr (by rw [List.mem_singleton.mp z]; exact hl)
  · exact GOk.app (GOk.mono hh (fun q hq => upd_ne fun z => nl (z ▸ hq)) G) ⟨⟨us, upd_same, (RpK.its ra).mono hh⟩, trivial⟩
/-! walking one -/
theorem for_keysK {dd : Addr} {ob : Obj} {us : List (Key × V)} {g : TG} {tb : TS} {D : Ends} {σ : St} {H : Hp} (Pv : Nat → St → Hp → Prop) (h0 : Pv 0 σ H)
    (hl : ∀ i σ H, i ≤ us.length → Pv i σ H → H dd = some (.frz ob (.dK us)) ∧ ∀ k v, us[i]? = some (k, v) → g (kV k) σ H fun σ2 H2 => tb { D with nx := Pv (i + 1), ct := Pv (i + 1), bk := D.nx } σ2 H2) (hd : ∀ σ H, Pv us.length σ H → D.nx σ H) :
    ∃ W : Nat → Nat → St → Hp → Prop, (∃ m, W 0 m σ H) ∧ ∀ i m σ H, W i m σ H →
      ((Itk dd ob us).stop i H ∧ D.nx σ H) ∨ ((Itk dd ob us).go i H ∧ ∃ N : St → Hp → Prop, (∀ σ' H', N σ' H' → ∃ m', m' < m ∧ W (i + 1) m' σ' H') ∧ ∀ x H', (Itk dd ob us).yld i H x H' → g x σ H' fun σ2 H2 => tb { D with nx := N, ct := N, bk := D.nx } σ2 H2) := by
  refine ⟨fun i m σ H => m = us.length - i ∧ i ≤ us.length ∧ Pv i σ H, ⟨us.length, by simp, Nat.zero_le _, h0⟩, ?_⟩
  rintro i m σ H ⟨rfl, hi, p⟩
  obtain ⟨q, hs⟩ := hl i σ H hi p
  by_cases hlt : i < us.length
  · refine .inr ⟨⟨q, hlt⟩, Pv (i + 1), fun σ' H' p' => ⟨us.length - (i + 1), by omega, rfl, hlt, p'⟩, fun x H' y => ?_⟩
    obtain ⟨e, k, v, hk, rfl⟩ := y
    subst e
    exact hs k v hk
  · have e : i = us.length := by omega
    subst e
    exact .inl ⟨⟨q, Nat.le_refl _⟩, hd σ H p⟩
/-- for x in d -/
theorem sv_forK (iG m : Nat) (I : Nat → List Sl → Prop) (tq : D → List Sl → List Sl) (g : Go X W k) (hG : r[iG]? = some (.gs gl)) (hj : gl[m]? = some (l, Nd.dc kvs)) (ho : ∀ H0, ER X (B.lk H0 l kvs) e (r.set iG (.gs (gl.eraseIdx m))) l)
    (ht : ∀ H0 (i : Nat) k t r', kvs[i]? = some (k, t) → GT X (B.lk H0 l kvs) tg r' (kD k) (tq (kD k) r')) (h0 : I 0 (r.set iG (.gs (gl.eraseIdx m))))
    (hs : ∀ H0 (i : Nat) k t r', kvs[i]? = some (k, t) → I i r' → SV X (B.lk H0 l kvs) W body (tq (kD k) r') { nx := LN I (i + 1), rt := fun _ _ => False, ct := LN I (i + 1) })
    (hI : ∀ i r', I i r' → ∃ gl', r'[iG]? = some (.gs gl')) (hd : ∀ r' gl', I kvs.length r' → r'[iG]? = some (.gs gl') → SV X B W rest (r'.set iG (.gs (gl' ++ [(l, Nd.dc kvs)]))) P)
    (hfs : ∀ x, foldedSetIterable e X.env x = pure x := by intro _; rfl) : SV X B W (.For tg e body [] pos :: rest) r P := fun H σ E S kt => by
  obtain ⟨us, e1, ik, po, hl⟩ := S.lockG hG hj
  refine ⟨_, pss_cons (ps_lock (ps_for g.po g.calm (pi_keys (wE_ok (e := e))) (wG_ok (tg := tg)) (wS_ok (sts := body)) hfs)) wS_ok, ?_⟩
  refine ⟨l, .dK us, e1, trivial, fun od => ?_⟩
  have S1 := hl od
  obtain ⟨te, pe, ke⟩ := ho _
  refine ⟨te, pe, ke _ σ S1 _ fun H2 s2 => ⟨l, od, rfl, .inl ⟨us, s2.k upd_same trivial, ?_⟩⟩⟩
  have S2 := S1.mono s2
  refine for_keysK (g := wG X tg) (tb := wS X body) (dd := l) (ob := od) (us := us) (fun i σ' H' => ∃ r', SOk X.K (B.lk _ l kvs) r' H' σ' ∧ I i r') ⟨_, S2, h0⟩ (fun i σ' H' _ ⟨r', S', hI'⟩ => ?_) (fun σ' H' ⟨r', S', hI'⟩ => ?_)
  · obtain ⟨gl', hG'⟩ := hI i r' hI'
    refine ⟨(SOk.unlockG (m := m) S e1 po S' hG').1, fun k v hk => ?_⟩
    obtain ⟨t, ht1, _⟩ := ik.at hk
    obtain ⟨gx, px, kx⟩ := ht _ i k t r' ht1
    refine ⟨gx, px, kx H' σ' _ S' (rp_key k) _ fun σ2 S3 => hs _ i k t r' ht1 hI' H' σ2 _ S3 ⟨?_, fun _ _ _ _ _ _ _ z => z.elim, fun _ _ _ _ z => z.elim, ?_, fun _ _ _ _ _ z => z.elim⟩⟩
    · rintro r2 σ3 H3 S3 ⟨q', w, hI3⟩
      exact ⟨q', S3.weak w, hI3⟩
    · rintro r2 σ3 H3 S3 ⟨q', w, hI3⟩
      exact ⟨q', S3.weak w, hI3⟩
  · obtain ⟨gl', hG'⟩ := hI _ r' hI'
    obtain ⟨e3, S4⟩ := SOk.unlockG (m := m) S e1 po S' hG'
    exact ⟨e3, hd r' gl' (ik.len ▸ hI') hG' _ σ' E S4 kt⟩
end
end Tp

namespace Tp
open PySem L2
/-! ### comprehensions over the keys of a dict among the ghosts -/
theorem lc_keysK {a : Addr} {ob : Obj} {us : List (Key × V)} {g : TG} {tt : TT} {te : TE} {vs : List Nat} {σ : St} {H1 : Hp} {D : Addr} {Qd : Hp → Prop} (Pv : Nat → Hp → Prop) (h0 : Pv 0 (upd H1 D (.lst []))) (hl : ∀ i H, i ≤ us.length → Pv i H → H a = some (.frz ob (.dK us)))
    (hs : ∀ i k v H, us[i]? = some (k, v) → Pv i H → g (kV k) (wipe σ vs) H fun σ2 H2 => wipe σ2 vs = wipe σ vs ∧ tt σ2 H2 fun b H3 =>
      if b = true then te σ2 H3 fun y H4 => ∃ acc, H4 D = some (.lst acc) ∧ acc.length < sizeLine ∧ Pv (i + 1) (upd H4 D (.lst (acc ++ [y]))) else Pv (i + 1) H3) (hd : ∀ H, Pv us.length H → Qd H) :
    ∃ W : Nat → Nat → Hp → Prop, (∃ m, W 0 m (upd H1 D (.lst []))) ∧ ∀ i m H, W i m H →
      ((Itk a ob us).stop i H ∧ Qd H) ∨ ((Itk a ob us).go i H ∧ ∃ Nx : Hp → Prop, (∀ H', Nx H' → ∃ m', m' < m ∧ W (i + 1) m' H') ∧ ∀ x H', (Itk a ob us).yld i H x H' → g x (wipe σ vs) H' fun σ2 H2 => wipe σ2 vs = wipe σ vs ∧ tt σ2 H2 fun b H3 =>
        if b = true then te σ2 H3 fun y H4 => ∃ acc, H4 D = some (.lst acc) ∧ acc.length < sizeLine ∧ Nx (upd H4 D (.lst (acc ++ [y]))) else Nx H3) := by
  refine ⟨fun i m H => m = us.length - i ∧ i ≤ us.length ∧ Pv i H, ⟨us.length, by simp, Nat.zero_le _, h0⟩, ?_⟩
  rintro i m H ⟨rfl, hi, p⟩
  have q := hl i H hi p
  by_cases hlt : i < us.length
  · refine .inr ⟨⟨q, hlt⟩, Pv (i + 1), fun H' p' => ⟨us.length - (i + 1), by omega, rfl, hlt, p'⟩, fun x H' y => ?_⟩
    obtain ⟨e, k, v, hk, rfl⟩ := y
    subst e
    exact hs i k v _ hk p
  · have e : i = us.length := by omega
    subst e
    exact .inl ⟨⟨q, Nat.le_refl _⟩, hd H p⟩
section
variable {X : Cx} {B : Bx} {W : WX} {P : Po} {r q : List Sl} {e a b o f tg c : Expr} {es : List Expr} {rest body orelse : List Stmt} {d : D} {ds : List D} {pos pos' p1 apos cpos : Pos} {k kk n iG m : Nat} {x : Str} {l p : Addr} {gl : List (Addr × Nd)} {kvs : List (Key × It)} {key : Key}
/-- [elt for x in d if ..], as a value -/
theorem evLcK (ix iG m : Nat) {pb : Key × It → Bool} {fd : Key × It → D} {elt : Expr} {ifs : List Expr} {px : Pos} {scope : Scope} (g : Go X W k) (hG : r[iG]? = some (.gs gl)) (hj : gl[m]? = some (l, Nd.dc kvs)) (ho : ∀ H0, ER X (B.lk H0 l kvs) a (r.set iG (.gs (gl.eraseIdx m))) l) (hz : kvs.length ≤ 100000)
    (ht : LTQ X (B.lk (fun _ => none) l kvs) scope ifs (r.set iG (.gs (gl.eraseIdx m))) ix kvs (fun u => kD u.1) pb)
    (he : ∀ s H0 C cl fp H' q' u, u ∈ kvs → pb u = true → EV (Blk X scope s H0 cl C fp) ⟨H', q', B.ts, (l, .fz kvs) :: B.gr⟩ elt ((r.set iG (.gs (gl.eraseIdx m))).set ix (.im (kD u.1))) (fd u)) (h0 : (r.set iG (.gs (gl.eraseIdx m)))[ix]? = some .no := by rfl) (ok : BlkOk X.N X.env.scope scope [(x, ix)] := by exact blkOk_by (by rfl)) (hi : X.N[ix]? = some x := by rfl)
    (hx : Loc (compEnvC scope [] 0 X.env).scope x := by first | exact Or.inl rfl | exact Or.inr rfl) (hf : (scope.names.lookup x == some .cell) = true ∨ (compEnvC scope [] 0 X.env).scope.names.lookup x = some .local := by first | exact Or.inr rfl | exact Or.inl rfl)
    (hs : ∀ v, foldedSetIterable a X.env v = pure v := by intro _; rfl) :
    EV X B (.ListComp elt [⟨.Name x px, a, ifs, 0⟩] scope pos) r (.list ((kvs.filter pb).map fd)) := by
  obtain ⟨tt, pt, kt⟩ := ht
  have fin : (kvs.filter pb).map fd = lcOut (atB pb kvs) (atD fd kvs) kvs.length := by rw [lcOut_on pb fd kvs _ (Nat.le_refl _), List.take_length]
  refine ⟨_, pe_lock (pe_lc (own := [(x, ix)]) (te := fun σ H Q => ∀ s H0 C cl fp, wE (Blk X scope s H0 cl C fp) elt σ H Q) g.calm g.nd (pi_keys (wE_ok (e := a))) ok (fun s H0 C cl fp => pg_name (i := ix) g.nd hi hx hf) pt (fun s H0 C cl fp => ⟨fun pins s' σ H Q I z => wE_ok.run pins s' σ H Q I (z s H0 C cl fp)⟩) hs), fun H σ S Q q => ?_⟩
  obtain ⟨us, e1, ik, po, hl⟩ := S.lockG hG hj
  obtain ⟨nl, nd3⟩ := List.nodup_cons.mp (po.nodup_iff.mp S.nd)
  have mem : ∀ z, z ∈ own r ↔ z = l ∨ z ∈ own (r.set iG (.gs (gl.eraseIdx m))) := fun z => by rw [po.mem_iff, List.mem_cons]
  refine ⟨l, .dK us, e1, trivial, fun od => ?_⟩
  have S1 := hl od
  obtain ⟨te, pe, ke⟩ := ho (hide (upd H l (.frz od (.dK us))) (own (r.set iG (.gs (gl.eraseIdx m)))))
  refine ⟨te, pe, ke _ σ S1 _ fun H2 s2 => ⟨l, od, rfl, .inl ⟨us, s2.k upd_same trivial, fun Dl hD => ?_⟩⟩⟩
  have S2 := S1.mono s2
  have e2 : H2 l = some (.frz od (.dK us)) := s2.k upd_same trivial
  have he' : ∀ s H0 C cl fp H' q' i, i < kvs.length → atB pb kvs i = true → EV (Blk X scope s H0 cl C fp) ⟨H', q', B.ts, (l, .fz kvs) :: B.gr⟩ elt ((r.set iG (.gs (gl.eraseIdx m))).set ix (.im (atD (fun u => kD u.1) kvs i))) (atD fd kvs i) := fun s H0 C cl fp H' q' i hi hp => by
    have hL : kvs[i]? = some (kvs[i]'hi) := List.getElem?_eq_getElem hi
    have e1 : atB pb kvs i = pb (kvs[i]'hi) := by unfold atB; rw [hL]
    have e2 : atD fd kvs i = fd (kvs[i]'hi) := by unfold atD; rw [hL]
    have e3 : atD (fun u : Key × It => kD u.1) kvs i = kD (kvs[i]'hi).1 := by unfold atD; rw [hL]
    rw [e2, e3]
    exact he s H0 C cl fp H' q' _ (List.getElem_mem hi) (e1 ▸ hp)
  have kt' : ∀ H' q' i H σ, i < kvs.length → SOk X.K ⟨H', q', B.ts, (l, .fz kvs) :: B.gr⟩ ((r.set iG (.gs (gl.eraseIdx m))).set ix (.im (atD (fun u => kD u.1) kvs i))) H σ → ∀ Q : Bool → Hp → Prop, (∀ H', Same H H' → Q (atB pb kvs i) H') → tt σ H Q := fun H' q' i H σ hi S Q q => by
    have hL : kvs[i]? = some (kvs[i]'hi) := List.getElem?_eq_getElem hi
    have e1 : atB pb kvs i = pb (kvs[i]'hi) := by unfold atB; rw [hL]
    have e3 : atD (fun u : Key × It => kD u.1) kvs i = kD (kvs[i]'hi).1 := by unfold atD; rw [hL]
    rw [e3] at S
    rw [e1] at q
    exact kt H' q' _ H σ (List.getElem_mem hi) S Q q
  have hlen := ik.len
  refine lc_keysK (g := gName ix) (tt := tt) (te := fun σ H Q => ∀ s H0 C cl fp, wE (Blk X scope s H0 cl C fp) elt σ H Q) (vs := [ix]) (σ := σ) (a := l) (ob := od) (us := us) (fun i H' => LcP X.K (B.lk (hide (upd H l (.frz od (.dK us))) (own (r.set iG (.gs (gl.eraseIdx m))))) l kvs) (r.set iG (.gs (gl.eraseIdx m))) ix σ H2 Dl (lcOut (atB pb kvs) (atD fd kvs) i) H') (LcP.start h0 S2 hD) (fun i H' _ p => p.1.k e2 trivial) (fun i ky v H' hv p => ?_) fun H' p => ?_
  · obtain ⟨t, ht1, _⟩ := ik.at hv
    have hi' : i < kvs.length := (List.getElem?_eq_some_iff.mp ht1).1
    have e3 : atD (fun u : Key × It => kD u.1) kvs i = kD ky := by unfold atD; rw [ht1]
    exact lc_turn (B := B.lk _ l kvs) (dv := atD (fun u : Key × It => kD u.1) kvs) h0 hD hz hi' he' kt' p (by rw [e3]; exact rp_key ky)
  · have e3 : H' l = some (.frz od (.dK us)) := p.1.k e2 trivial
    refine ⟨e3, ?_⟩
    have hdone := p.done S2 hD
    refine q _ _ (fun c ob ec => ?_) ?_
    · by_cases hc : c = l
      · subst hc
        rw [e1] at ec; cases ec
        exact .inl upd_same
      · rw [upd_ne hc]
        have ec : upd H l (.frz od (.dK us)) c = some ob := by rw [upd_ne hc]; exact ec
        exact (s2.trans p.1) c ob ec
    · rw [fin, ← hlen]
      refine hdone.mono fun c ob ec => ?_
      have ec : hide H' (own (r.set iG (.gs (gl.eraseIdx m))) ++ l :: B.ps) c = some ob := ec
      by_cases hc : c ∈ own (r.set iG (.gs (gl.eraseIdx m))) ++ l :: B.ps
      · rw [hide_in hc] at ec; cases ec
      · rw [hide_out hc] at ec
        have ncl : c ≠ l := fun z => hc (List.mem_append_right _ (z ▸ List.mem_cons_self))
        show Ext1 ob (hide _ (own r ++ B.ps) c)
        rw [hide_out fun z => ?_, upd_ne ncl]
        · exact .inl ec
        · rcases List.mem_append.mp z with y | y
          · rcases (mem c).mp y with y | y
            · exact ncl y
            · exact hc (List.mem_append_left _ y)
          · exact hc (List.mem_append_right _ (List.mem_cons_of_mem _ y))
end
end Tp

namespace ExS
open PySem PySem.Spec PyProof.Rows PyProof
theorem ext_any (l : Addr) (items : Array Value) (n : Nat) (b : Addr) (items2 : Array Value) (n2 : Nat) (sls : Array (Option Value)) (hc0 : ¬(!items.isEmpty && Builtin.List.listTooLong (items.size + items2.size)) = true) (hc1 : items.size ≤ sizeLine) (hs2 : items.size + items2.size ≤ sizeLine + 1) :
    Meets (Builtin.«list.extend» ⟨[.ref l, .ref b], []⟩) (fun _ R s => s.heap.get? l = some { cls := .type "list", dict := none, data := .seq items n, slots := #[] } ∧ s.heap.get? b = some { cls := .type "list", dict := none, data := .seq items2 n2, slots := sls } ∧ R (.ok (.ret Value.none)) { s with heap := s.heap.update l (Obj.mapSeq fun x => x ++ items2), toks := s.toks }) :=
  .of_wp fun prog w A R s h => by
    obtain ⟨hp, g, d, tk, os⟩ := s; obtain ⟨hl, hb, h⟩ := h; have f1 := AutoSeq1.idx_int; have f2 := AutoSeq1.sub_tuple_tuple; have f3 := AutoSeq1.sub_list_list; have f4 := AutoSeq1.sub_tuple_list; have f5 := AutoSeq1.sub_list_tuple;
    have hz' : (items ++ items2).size ≤ sizeLine + 1 := by rw [Array.size_append]; exact hs2
    wp_walk using (wpAny_updateSeq hl rfl (hz := hc1) (_hz' := hz')), AutoSeq1.wpAny_loadPart' hl, AutoSeq1.wpAny_loadPart' hb; exact ⟨_, rfl, h⟩
end ExS
namespace ExS
open PySem PySem.Spec PyProof.Rows L2
variable {X : Cx}
def rExtendS (K : PySem.W.Frag) : V → List V → Hp → VK → Prop := fun x vs H Q => ∃ l b xs zs, x = .ref l ∧ vs = [.ref b] ∧ H l = some (.lst xs) ∧ SqL K H b zs ∧ xs.length + zs.length ≤ sizeLine ∧ Q .non (upd H l (.lst (xs ++ zs)))
theorem mt_extendS : MtM X "list.extend" (rExtendS X.K) := by
  intro pins s σ H x vs v us Q I rx rv h
  obtain ⟨l, b, xs, zs, rfl, rfl, hH, hB, hz, q⟩ := h
  cases rx
  obtain ⟨u, rfl, ru⟩ := rv.one
  cases ru
  obtain ⟨z, its, n, r, hl, e⟩ := I.lstM hH
  obtain ⟨its2, r2, hp2, hl2'⟩ := I.list hB
  have hl2 := r2.length
  obtain ⟨o2, n2, ho2, hc2, hd2, hdt2⟩ := hp2
  have hsz : its.toArray.size + its2.toArray.size ≤ sizeLine := by rw [List.size_toArray, List.size_toArray]; omega
  have hlong : ¬ (!its.toArray.isEmpty && Builtin.List.listTooLong (its.toArray.size + its2.toArray.size)) = true := by
    rw [notLongL hsz, Bool.and_false]
    exact Bool.false_ne_true
  refine call_meets F.slot_list_extend ⟨_, e, rfl⟩ F.entry_list_extend (F.args_list_extend_2 _ _)
    (ext_any l its.toArray n b its2.toArray n2 o2.slots hlong (by rw [List.size_toArray]; omega) (by omega)) ⟨e, ?_, ?_⟩
  · obtain ⟨cls, dd, data, sls⟩ := o2
    simp only at hc2 hd2 hdt2
    subst hc2 hd2 hdt2
    exact ho2
  · refine ⟨.non, _, I.lset (its' := its ++ its2) hH e (by simp) (r.append r2) ?_, rfl, q⟩
    rw [List.length_append]
    omega
end ExS
namespace Tp
open PySem L2
section
variable {X : Cx} {B : Bx} {W : WX} {P : Po} {r q : List Sl} {e a b o f tg c : Expr} {es elts : List Expr} {rest body orelse : List Stmt} {d : D} {ds : List D} {pos pos' p1 apos cpos : Pos} {k kk n iG m : Nat} {x : Str} {l p : Addr} {gl : List (Addr × Nd)} {kvs : List (Key × It)} {key : Key}
/-- if c: x.append(e) -/
theorem sv_ifApp (i : Nat) {x : Str} {p : Addr} {pc cp apos : Pos} {k : Bool} (hr : r[i]? = some (.ol p ds)) (hc : ET X B c r k) (he : EV X B e r d) (hl : ds.length < 100000) (h : SV X B W rest (r.set i (.ol p (ds ++ if k = true then [d] else []))) P) (hN : X.N[i]? = some x := by rfl) (hv : Vis X.env.scope x := by first | exact Or.inl rfl | exact Or.inr (Or.inl rfl) | exact Or.inr (Or.inr rfl)) (hd : (x == ("__debug__" : Str)) = false := by decide)
    (hcd : (x == ("__classdict__" : Str)) = false := by decide) (hs : swapsWith (.Call (.Attribute (.Name x pos') "append" pc) [e] [] cp) none apos.line X.env = pure false := by rfl) (hline : (pc.endLine == cp.line) = true := by rfl) (hst : NSt X e := by exact fun _ => rfl) :
    SV X B W (.If c [.Expr (.Call (.Attribute (.Name x pos') "append" pc) [e] [] cp) apos] [] pos :: rest) r P := by
  refine sv_if hc (fun hk => ?_) fun hk => ?_
  · refine sv_app i hr he hl ?_ hN hv hd hcd hs hline hst
    refine sv_nil ?_
    show SV X B W rest _ P
    rw [hk, if_pos rfl] at h
    exact h
  · refine sv_nil ?_
    show SV X B W rest _ P
    rw [hk, if_neg Bool.false_ne_true, List.append_nil, set_self hr] at h
    exact h
theorem len_if {k : Bool} {n : Nat} (h : ds.length < n) : (ds ++ if k = true then [d] else []).length < n + 1 := by
  rw [List.length_append]
  split
  · exact Nat.add_lt_add_right h 1
  · exact Nat.lt_succ_of_lt h
/-- x.extend(e) -/
theorem sv_ext (i : Nat) {x : Str} {p : Addr} {pc cp : Pos} {d2 : List D} (hr : r[i]? = some (.ol p ds)) (he : EV X B e r (.list d2)) (hl : ds.length + d2.length ≤ 100000) (h : SV X B W rest (r.set i (.ol p (ds ++ d2))) P) (hN : X.N[i]? = some x := by rfl) (hv : Vis X.env.scope x := by first | exact Or.inl rfl | exact Or.inr (Or.inl rfl) | exact Or.inr (Or.inr rfl)) (hd : (x == ("__debug__" : Str)) = false := by decide)
    (hcd : (x == ("__classdict__" : Str)) = false := by decide) (hs : swapsWith (.Call (.Attribute (.Name x pos') "extend" pc) [e] [] cp) none pos.line X.env = pure false := by rfl) (hline : (pc.endLine == cp.line) = true := by rfl) (hst : NSt X e := by exact fun _ => rfl) :
    SV X B W (.Expr (.Call (.Attribute (.Name x pos') "extend" pc) [e] [] cp) pos :: rest) r P := fun H σ E S kt => by
  obtain ⟨te, pp, q⟩ := he
  obtain ⟨e1, vs, y, z⟩ := S.sl i _ hr
  refine ⟨_, pss_cons (ps_expr (pe_bm PySem.F.plainAttrs_list PySem.F.slot_list_extend PySem.F.type_list_extend ExS.mt_extendS (pe_var hN hv hd hcd) (pa_cons pp pa_nil (hst _)) (hbase := by rfl) (hfew := by rw [hst]; rfl) (hline := hline) (hs := hst _) (hplain := by rfl)) hs) wS_ok, _, e1, .inl ⟨rfl, _, SqL.of y⟩, q H σ S _ fun v H1 s1 u => ?_⟩
  have y1 : H1 p = some (.lst vs) := s1.k y
  have S1 := S.mono s1
  cases u with
  | @lst a2 xs _ h1 h2 =>
    refine ⟨p, a2, vs, xs, rfl, rfl, y1, hide_same.seq h1, Nat.le_trans (by rw [z.len, h2.len]; exact hl) (by decide : 100000 ≤ sizeLine), ?_⟩
    exact h _ _ E (S1.turn hr rfl rfl ⟨e1, _, upd_same, (z.mono (hide_mono s1)).app h2⟩) kt
/-- while, by a number that falls -/
theorem sv_while (I : Nat → List Sl → Prop) (n0 : Nat) (g : Go X W k) (h0 : I n0 r) (hs : ∀ n r', I n r' → ∃ kb, ET X B c r' kb ∧ (kb = true → ∃ m, n = m + 1 ∧ SV X B W body r' (P.loop (LN I m) fun q => SV X B W rest q P)) ∧ (kb = false → SV X B W rest r' P)) :
    SV X B W (.While c body [] pos :: rest) r P := fun H σ E S kt => by
  refine ⟨_, pss_cons (ps_while g.po (wT_ok (e := c)) (wS_ok (sts := body))) wS_ok, ?_⟩
  refine ⟨fun n σ' H' => ∃ r', SOk X.K B r' H' σ' ∧ I n r', ⟨n0, r, S, h0⟩, fun n σ' H' ⟨r', S', hI⟩ => ?_⟩
  obtain ⟨kb, ⟨t, p, q⟩, h1, h2⟩ := hs n r' hI
  refine ⟨t, p, q H' σ' S' _ fun H2 s2 => ?_⟩
  have S2 := S'.mono s2
  cases kb with
  | false => exact iteF (h2 rfl H2 σ' E S2 kt)
  | true =>
    obtain ⟨m, rfl, hb⟩ := h1 rfl
    refine iteT ⟨fun σ3 H3 => ∃ r3, SOk X.K B r3 H3 σ3 ∧ I m r3, fun σ3 H3 z => ⟨m, Nat.lt_succ_self m, z⟩, hb H2 σ' _ S2 ⟨?_, kt.rt, ?_, ?_, kt.ex⟩⟩
    · rintro r2 σ3 H3 S3 ⟨q', w, hI'⟩
      exact ⟨q', S3.weak w, hI'⟩
    · exact fun r2 σ3 H3 S3 hb => hb H3 σ3 E S3 kt
    · rintro r2 σ3 H3 S3 ⟨q', w, hI'⟩
      exact ⟨q', S3.weak w, hI'⟩
theorem for_enumG {K : PySem.W.Frag} {a : Addr} {n : Nat} {g : TG} {tb : TS} {D : Ends} {σ : St} {H : Hp} (Pv : Nat → St → Hp → Prop) (h0 : Pv 0 σ H)
    (hl : ∀ i σ H, i ≤ n → Pv i σ H → ∃ xs : List V, SqL K H a xs ∧ xs.length = n ∧ ∀ x T, xs[i]? = some x → H T = none → g (.ref T) σ (upd H T (.tup [.int (i : Nat), x])) fun σ2 H2 => tb { D with nx := Pv (i + 1), ct := Pv (i + 1), bk := D.nx } σ2 H2) (hd : ∀ σ H, Pv n σ H → D.nx σ H) :
    ∃ W : Nat → Nat → St → Hp → Prop, (∃ m, W 0 m σ H) ∧ ∀ i m σ H, W i m σ H →
      ((Ite K a).stop i H ∧ D.nx σ H) ∨ ((Ite K a).go i H ∧ ∃ N : St → Hp → Prop, (∀ σ' H', N σ' H' → ∃ m', m' < m ∧ W (i + 1) m' σ' H') ∧ ∀ x H', (Ite K a).yld i H x H' → g x σ H' fun σ2 H2 => tb { D with nx := N, ct := N, bk := D.nx } σ2 H2) := by
  refine ⟨fun i m σ H => m = n - i ∧ i ≤ n ∧ Pv i σ H, ⟨n, by simp, Nat.zero_le _, h0⟩, ?_⟩
  rintro i m σ H ⟨rfl, hi, p⟩
  obtain ⟨xs, q, hn, hs⟩ := hl i σ H hi p
  by_cases hlt : i < n
  · have hx : xs[i]? = some (xs[i]'(by omega)) := List.getElem?_eq_getElem _
    refine .inr ⟨⟨xs, _, q, hx⟩, Pv (i + 1), fun σ' H' p' => ⟨n - (i + 1), by omega, rfl, hlt, p'⟩, fun x H' y => ?_⟩
    obtain ⟨T, x', rfl, hT, rfl, f1⟩ := y
    exact hs x' T (f1 xs q) hT
  · have e : i = n := by omega
    subst e
    exact .inl ⟨⟨xs, q, by omega⟩, hd σ H p⟩
/-- for i, x in enumerate(a list among the ghosts) -/
theorem sv_forEG {l : Addr} (I : Nat → List Sl → Prop) (tq : D → List Sl → List Sl) {pc tpos : Pos} (g : Go X W k) (he : ER X B e r l) (hG : ∀ (i : Nat) r', I i r' → InG B r' (l, Nd.ls (ds.map It.da))) (hm : X.mg "enumerate" = none) (ht : ∀ (i : Nat) d r', ds[i]? = some d → GT X B (.Tuple elts kk tpos) r' (.tuple [.int (i : Int), d]) (tq (.tuple [.int (i : Int), d]) r')) (h0 : I 0 r)
    (hs : ∀ (i : Nat) d r', ds[i]? = some d → I i r' → SV X B W body (tq (.tuple [.int (i : Int), d]) r') (P.loop (LN I (i + 1)) fun q => SV X B W rest q P)) (hd : ∀ r', I ds.length r' → SV X B W rest r' P) (hg : Gl X "enumerate" := by rfl)
    (hst : starEach [e] X.env = [(false, eval e X.env)] := by rfl) (hfs : ∀ v, foldedSetIterable (.Call (.Name "enumerate" p1) [e] [] pc) X.env v = pure v := by intro _; rfl) : SV X B W (.For (.Tuple elts kk tpos) (.Call (.Name "enumerate" p1) [e] [] pc) body [] pos :: rest) r P := fun H σ E S kt => by
  obtain ⟨te, pp, ke⟩ := he
  refine ⟨_, pss_cons (ps_for g.po g.calm (pi_enum hg hm (pa_cons pp pa_nil (by rw [hst]; rfl)) hst) (wG_ok (tg := .Tuple elts kk tpos)) (wS_ok (sts := body)) hfs) wS_ok, ?_⟩
  refine ke H σ S _ fun H1 s1 => ?_
  have S1 := S.mono s1
  obtain ⟨vs, e1, y⟩ := (hG 0 r h0).ok S1
  refine ⟨l, vs, rfl, SqL.of e1, ?_⟩
  refine for_enumG (g := wG X (.Tuple elts kk tpos)) (tb := wS X body) (D := { E with nx := wS X rest E }) (K := X.K) (a := l) (n := ds.length) (fun i σ' H' => ∃ r', SOk X.K B r' H' σ' ∧ I i r') ⟨r, S1, h0⟩ (fun i σ' H' _ ⟨r', S', hI⟩ => ?_) (fun σ' H' ⟨r', S', hI⟩ => hd r' hI H' σ' E S' kt)
  obtain ⟨vs, e1, y⟩ := (hG i r' hI).ok S'
  refine ⟨vs, SqL.of e1, y.das.len, fun x T hx hT => ?_⟩
  obtain ⟨d, hd', rd⟩ := y.das.getV hx
  obtain ⟨gx, px, kx⟩ := ht i d r' hd'
  have sT : Same H' (upd H' T (.tup [.int (i : Nat), x])) := same_new hT
  have S2 := S'.mono sT
  refine ⟨gx, px, kx _ σ' _ S2 (.tup (SqT.of (hide_new hT S'.dom)) (.cons (.int _) (.cons (Rp.mono (hide_mono sT) rd) .nil))) _ fun σ2 S3 => hs i d r' hd' hI _ σ2 _ S3 ⟨?_, kt.rt, ?_, ?_, kt.ex⟩⟩
  · rintro r2 σ3 H3 S3 ⟨q', w, hI'⟩
    exact ⟨q', S3.weak w, hI'⟩
  · exact fun r2 σ3 H3 S3 hb => hb H3 σ3 E S3 kt
  · rintro r2 σ3 H3 S3 ⟨q', w, hI'⟩
    exact ⟨q', S3.weak w, hI'⟩
/-- x = o.pop(i), a list of data among the ghosts -/
theorem sv_popLG (i iG m : Nat) {z : Int} {nn : Nat} (g : Go X W k) (ho : ER X B o r l) (hG : r[iG]? = some (.gs gl)) (hj : gl[m]? = some (l, Nd.ls (ds.map It.da))) (hk : EV X B b r (.int z)) (hb : -(2 ^ 63) ≤ z ∧ z < 2 ^ 63) (hi' : seqIndex? z ds.length = some nn) (hv : ds[nn]? = some d) (h : SV X B W rest ((r.set iG (.gs (gl.set m (l, Nd.ls ((ds.eraseIdx nn).map It.da))))).set i (.im d)) P) (hi : X.N[i]? = some x := by rfl) (hx : Loc X.env.scope x := by first | exact Or.inl rfl | exact Or.inr rfl)
    (hs : swapsWith (.Call (.Attribute o "pop" apos) [b] [] cpos) (some (.Name x pos')) pos.line X.env = pure false := by rfl) (hf : X.fn x = true ∨ X.env.scope.names.lookup x = some .local := by first | exact .inl rfl | exact .inr rfl) (hbase : attributeBase o "pop" X.env (eval o X.env) = eval o X.env := by rfl) (hline : (apos.endLine == cpos.line) = true := by rfl) (hst : NSt X b := by exact fun _ => rfl) :
    SV X B W (.Assign [.Name x pos'] (.Call (.Attribute o "pop" apos) [b] [] cpos) pos :: rest) r P := fun H σ E S kt => by
  obtain ⟨to, po, ko⟩ := ho
  obtain ⟨t', pt', kp'⟩ := hk
  refine ⟨_, pss_cons (ps_set g.nd hi hx (pe_bm PySem.F.plainAttrs_list PySem.F.slot_list_pop PySem.F.type_list_pop mt_popAt po (pa_cons pt' pa_nil (hst _)) (hbase := hbase) (hfew := by rw [hst]; rfl) (hline := hline) (hs := hst _) (hplain := by rfl)) hs hf) wS_ok, ko H σ S _ fun H1 s1 => ?_⟩
  obtain ⟨vs0, e0, _⟩ := ((S.mono s1).ghosts hG).1.get hj
  refine ⟨.inl ⟨rfl, _, SqL.of e0⟩, kp' H1 σ (S.mono s1) _ fun w H2 s2 u => ?_⟩
  cases u
  have S2 := (S.mono s1).mono s2
  obtain ⟨vs, e1, y⟩ := (S2.ghosts hG).1.get hj
  have hln : vs.length = ds.length := y.das.len
  obtain ⟨v, hv1, rv⟩ : ∃ v, vs[nn]? = some v ∧ Rp X.K (hid B r H2) v d := by
    obtain ⟨v, h1, h2⟩ := y.get (i := nn) (t := .da d) (by rw [List.getElem?_map, hv]; rfl)
    exact ⟨v, h1, h2⟩
  refine ⟨l, vs, z, nn, v, rfl, rfl, e1, hb.1, hb.2, by rw [hln]; exact hi', hv1, ?_⟩
  have e : (ds.eraseIdx nn).map It.da = (ds.map It.da).eraseIdx nn := erase_map It.da ds nn
  have S3 := S2.lturn (ws := vs.eraseIdx nn) (js := (ds.eraseIdx nn).map It.da) hG hj (by rw [e]; exact y.erase nn)
  have hs2 : gown (gl.set m (l, Nd.ls ((ds.eraseIdx nn).map It.da))) = gown gl := gown_set (n := .ls (ds.map It.da)) (n' := .ls ((ds.eraseIdx nn).map It.da)) rfl hj
  have oe : own (r.set iG (.gs (gl.set m (l, Nd.ls ((ds.eraseIdx nn).map It.da))))) = own r := own_set_eq (s := .gs gl) (s' := .gs (gl.set m (l, Nd.ls ((ds.eraseIdx nn).map It.da)))) hs2.symm hG
  refine h _ _ E (S3.im ?_) kt
  show Rp X.K (hide (upd H2 l _) (own (r.set iG (.gs (gl.set m (l, Nd.ls ((ds.eraseIdx nn).map It.da))))) ++ B.ps)) v d
  rw [oe]
  exact rv.mono (hide_upd (List.mem_append_left _ (mem_own hG (gown_at hj l (own1_head _ _)))))
end
end Tp

/-! comprehensions over pairs; len(set(a list of ints)) -/
namespace TpL
open PySem PySem.Spec PyProof.Rows L2
/-- the different ones -/
def dif (ns : List Int) : List Int := firstMet (fun i => ns.getD i 0) ns.length
section
variable {X : Cx}
def tLenSetI (K : PySem.W.Frag) (ta : TE) : TE := fun σ H Q => ta σ H fun x H1 => ∃ l, ∃ ns : List Int, x = .ref l ∧ SqL K H1 l (ns.map V.int) ∧ ns.length + 1 < 4096 ∧ Q (.int (dif ns).length) H1
theorem pe_lenSetI {a : Expr} {ta : TE} {p p2 q pos : Pos} (hc : X.calm = true) (hg : Gl X "len") (hm : X.mg "len" = none) (hg2 : Gl X "set") (hm2 : X.mg "set" = none) (ha : PE X a ta)
    (na : starEach [a] X.env = (false, eval a X.env) :: starEach [] X.env := by rfl) : PE X (.Call (.Name "len" p) [.Call (.Name "set" p2) [a] [] q] [] pos) (tLenSetI X.K ta) := by
  refine ⟨fun pins s σ H Q I h => ?_⟩
  refine Call_ (ld_blt I hg hm boot_len ?_)
  refine PyProof.Rows.callWith_builtin1 (PyProof.Rows.args_cons ?_ rfl) rfl rfl
  refine Call_ (ld_blt I hg2 hm2 boot_set ?_)
  refine PyProof.Rows.callWith_type1 (PyProof.Rows.args_cons (thn (ha.run pins s σ H _ I h) fun v s1 ⟨x, H1, I1, r1, q1⟩ => PyProof.Rows.args_nil ?_) na) na rfl
  obtain ⟨l, ns, rfl, hq, h1, q1⟩ := q1
  cases r1
  obtain ⟨its, r, pl, hz⟩ := I1.list hq
  have hi := MnL.vals_ints r
  have hl : its.toArray.size = ns.length := by rw [List.size_toArray, ← r.length, List.length_map]
  refine PySem.call_set_list (I1.ok.hd hc) pl.isList (by simpa using hi) (by rw [hl]; exact h1) fun h' tk hS hk => ?_
  refine PyProof.Rows.args_nil ?_
  rw [hl] at hS
  obtain ⟨o, es, ep, t, ho, hex, hd, _, _, _, hf, hn⟩ := hS
  have I2 : Inv X pins σ H1 { s1 with heap := h', toks := tk } := I1.kept fun b o e => hk b o (Heap.lt_size e) e
  have hle : (dif ns).length ≤ ns.length := firstMet_length_le _ _
  have hn : es.size = (dif ns).length := hn
  exact call_len_set ho hex hd hf (by rw [hn]; omega) ⟨.int (dif ns).length, H1, I2.tok _, ⟨_, by rw [hn]⟩, q1⟩
end
end TpL
namespace Tp
open PySem L2 TpL
section
variable {X : Cx} {B : Bx} {W : WX} {P : Po} {r q : List Sl} {e a b o f tg c : Expr} {es : List Expr} {rest body orelse : List Stmt} {d : D} {ds : List D} {pos pos' p1 p2 apos cpos : Pos} {k kk n : Nat} {x y : Str}
theorem evLenSetI {W : WX} {ns : List Int} (g : Go X W k) (h : EV X B e r (.list (ns.map PyData.int))) (hz : ns.length < 4000) (hm : X.mg "len" = none) (hm2 : X.mg "set" = none) (hg : Gl X "len" := by rfl) (hg2 : Gl X "set" := by rfl) (hst : NSt X e := by exact fun _ => rfl) : EV X B (.Call (.Name "len" p1) [.Call (.Name "set" p2) [e] [] pos'] [] pos) r (.int (dif ns).length) := by
  obtain ⟨t, pp, q⟩ := h
  refine ⟨_, TpL.pe_lenSetI g.calm hg hm hg2 hm2 pp (hst _), fun H σ S Q q' => q H σ S _ fun v H1 s1 yy => ?_⟩
  cases yy with
  | lst h1 h2 =>
    have e := rp_ints h2
    subst e
    exact ⟨_, ns, rfl, Same.seq hide_same h1, by omega, q' _ H1 s1 (.int _)⟩
/-- the state between two turns of a comprehension over pairs -/
def LcW (K : PySem.W.Frag) (B : Bx) (r : List Sl) (σ : St) (H1 : Hp) (Dl : Addr) (ol : List D) (H' : Hp) : Prop :=
  Same H1 H' ∧ SOk K ⟨hide H' (own r), Dl :: B.ps, B.ts, B.gr⟩ r H' σ ∧ Dl ∉ gown B.gr ∧ ∃ acc, H' Dl = some (.lst acc) ∧ RpA K (hide H' (Dl :: (own r ++ B.ps))) acc ol
theorem LcW.see {K : PySem.W.Frag} {σ : St} {H1 H' : Hp} {Dl : Addr} {ol : List D} (hD : H1 Dl = none) (p : LcW K B r σ H1 Dl ol H') : Same (hid B r H1) (hide H' (own r ++ Dl :: B.ps)) := fun b u eb => by
  have eb : hide H1 (own r ++ B.ps) b = some u := eb
  by_cases hb : b ∈ own r ++ B.ps
  · rw [hide_in hb] at eb; cases eb
  · rw [hide_out hb] at eb
    have nb : b ≠ Dl := ne_of_none eb hD
    rw [hide_out fun z => (List.mem_append.mp z).elim (fun y => hb (List.mem_append_left _ y)) fun y => (List.mem_cons.mp y).elim nb fun y => hb (List.mem_append_right _ y)]
    exact p.1 _ _ eb
theorem set_swap {α : Type} (l : List α) {i j : Nat} (h : i ≠ j) (a b : α) : (l.set i a).set j b = (l.set j b).set i a := List.set_comm a b h
theorem lcW_turn {ix jx : Nat} {elt : Expr} {scope : Scope} {σ : St} {H1 H' : Hp} {Dl : Addr} {ol : List D} {da db fd : D} {v : V} (hne : ix ≠ jx) (h0 : r[ix]? = some .no) (h1 : r[jx]? = some .no) (hD : H1 Dl = none) (hn : ol.length < 100000)
    (he : ∀ s H0 C cl fp H' q', EV (Blk X scope s H0 cl C fp) ⟨H', q', B.ts, B.gr⟩ elt ((r.set ix (.im da)).set jx (.im db)) fd)
    (p : LcW X.K B r (wipe σ [ix, jx]) H1 Dl ol H') (hv : Rp X.K (hide H' (own r ++ Dl :: B.ps)) v (.tuple [da, db])) :
    gTup X.K 2 (gCons (gName ix) (gCons (gName jx) gNil)) v (wipe σ [ix, jx]) H' fun σ2 H2 => wipe σ2 [ix, jx] = wipe σ [ix, jx] ∧ tYes σ2 H2 fun b H3 =>
      if b = true then (fun σ H Q => ∀ s H0 C cl fp, wE (Blk X scope s H0 cl C fp) elt σ H Q : TE) σ2 H3 fun y H4 => ∃ acc, H4 Dl = some (.lst acc) ∧ acc.length < sizeLine ∧ LcW X.K B r (wipe σ [ix, jx]) H1 Dl (ol ++ [fd]) (upd H4 Dl (.lst (acc ++ [y]))) else LcW X.K B r (wipe σ [ix, jx]) H1 Dl (ol ++ [fd]) H3 := by
  obtain ⟨p1, S, pg, acc, p2, p3⟩ := p
  cases hv with
  | tup k1 k2 =>
  cases k2 with
  | cons ra k3 =>
  cases k3 with
  | cons rb k4 =>
  cases k4
  rename_i va vb
  have S2 : SOk X.K ⟨hide H' (own r), Dl :: B.ps, B.ts, B.gr⟩ (r.set ix (.im da)) H' ((wipe σ [ix, jx]).set ix (some va)) := S.im ra
  have eo1 : own (r.set ix (.im da)) = own r := own_set_eq (s := .no) (s' := .im da) rfl h0
  have S3 : SOk X.K ⟨hide H' (own r), Dl :: B.ps, B.ts, B.gr⟩ ((r.set ix (.im da)).set jx (.im db)) H' (((wipe σ [ix, jx]).set ix (some va)).set jx (some vb)) := by
    refine S2.im ?_
    show Rp X.K (hide H' (own (r.set ix (.im da)) ++ Dl :: B.ps)) vb db
    rw [eo1]; exact rb
  have h1' : (r.set ix (.im da))[jx]? = some .no := by rw [List.getElem?_set_ne hne]; exact h1
  have eo : own ((r.set ix (.im da)).set jx (.im db)) = own r := (own_set_eq (s := .no) (s' := .im db) rfl h1').trans eo1
  refine ⟨_, _, rfl, seqT hide_same k1, rfl, va, [vb], rfl, vb, [], rfl, rfl, ?_, ?_⟩
  · show ((((((σ.set jx none).set ix none).set ix (some va)).set jx (some vb)).set jx none).set ix none) = (σ.set jx none).set ix none
    rw [List.set_set, List.set_set, set_swap _ hne, List.set_set, List.set_set]
  · unfold tYes
    simp only []
    rw [if_pos trivial]
    intro s H0 C cl fp
    obtain ⟨t, pt, kt⟩ := he s H0 C cl fp (hide H' (own r)) (Dl :: B.ps)
    refine ⟨t, pt, kt H' _ S3 _ fun y H4 s4 ry => ?_⟩
    have p2' : H4 Dl = some (.lst acc) := s4.k p2
    have hln := p3.len
    refine ⟨acc, p2', by rw [hln]; exact Nat.lt_of_lt_of_le hn (by decide : 100000 ≤ sizeLine), ?_, ?_, pg, acc ++ [y], upd_same, ?_⟩
    · intro b u eb
      rw [upd_ne (ne_of_none eb hD)]
      exact (p1.trans s4) b u eb
    · exact (S.mono s4).redock List.mem_cons_self p2' trivial pg
    · refine ((p3.mono (hide_mono s4)).app (.one ?_)).mono (hide_upd List.mem_cons_self)
      have ry : Rp X.K (hide H4 (own ((r.set ix (.im da)).set jx (.im db)) ++ Dl :: B.ps)) y fd := ry
      rw [eo] at ry
      exact ry.mono hid_eq
/-- [elt for x, y in a list of pairs] -/
theorem evLcP (ix jx : Nat) {α : Type} {L : List α} {ga gb f : α → D} {elt : Expr} {px py tp : Pos} {tn : Nat} {scope : Scope} (g : Go X W k) (hn' : ES X B a r false (L.map fun u => .tuple [ga u, gb u])) (hz : L.length ≤ 100000)
    (he : ∀ s H0 C cl fp H' q' u, u ∈ L → EV (Blk X scope s H0 cl C fp) ⟨H', q', B.ts, B.gr⟩ elt ((r.set ix (.im (ga u))).set jx (.im (gb u))) (f u)) (hne : ix ≠ jx := by decide) (h0 : r[ix]? = some .no := by rfl) (h1 : r[jx]? = some .no := by rfl) (ok : BlkOk X.N X.env.scope scope [(x, ix), (y, jx)] := by exact blkOk_by (by rfl)) (hi : X.N[ix]? = some x := by rfl) (hj : X.N[jx]? = some y := by rfl)
    (hx : Loc (compEnvC scope [] 0 X.env).scope x := by first | exact Or.inl rfl | exact Or.inr rfl) (hf : (scope.names.lookup x == some .cell) = true ∨ (compEnvC scope [] 0 X.env).scope.names.lookup x = some .local := by first | exact Or.inr rfl | exact Or.inl rfl)
    (hy : Loc (compEnvC scope [] 0 X.env).scope y := by first | exact Or.inl rfl | exact Or.inr rfl) (hf2 : (scope.names.lookup y == some .cell) = true ∨ (compEnvC scope [] 0 X.env).scope.names.lookup y = some .local := by first | exact Or.inr rfl | exact Or.inl rfl)
    (hs : ∀ v, foldedSetIterable a X.env v = pure v := by intro _; rfl) :
    LcD X B (.ListComp elt [⟨.Tuple [.Name x px, .Name y py] tn tp, a, [], 0⟩] scope pos) r (.list (L.map f)) := by
  obtain ⟨ta, pa, ka⟩ := hn'
  have pg : ∀ s H0 C cl fp, PG (Blk X scope s H0 cl C fp) (.Tuple [.Name x px, .Name y py] tn tp) (gTup X.K 2 (gCons (gName ix) (gCons (gName jx) gNil))) := fun s H0 C cl fp => pg_tup (X := Blk X scope s H0 cl C fp) g.calm (pgs_cons (pg_name (i := ix) g.nd hi hx hf) (pgs_cons (pg_name (i := jx) g.nd hj hy hf2) pgs_nil rfl) rfl) rfl rfl
  refine ⟨_, pe_lc (own := [(x, ix), (y, jx)]) (te := fun σ H Q => ∀ s H0 C cl fp, wE (Blk X scope s H0 cl C fp) elt σ H Q) g.calm g.nd (pi_list pa) ok pg (fun _ _ _ _ _ => pts_nil) (fun s H0 C cl fp => ⟨fun pins s' σ H Q I z => wE_ok.run pins s' σ H Q I (z s H0 C cl fp)⟩) hs, fun i y py spos hy hl hsw => ps_setLc (own := [(x, ix), (_, jx)]) (te := fun σ H Q => ∀ s H0 C cl fp, wE (Blk X scope s H0 cl C fp) elt σ H Q) g.calm g.nd hy hl hsw (pi_list pa) ok pg (fun _ _ _ _ _ => pts_nil) (fun s H0 C cl fp => ⟨fun pins s' σ H Q I z => wE_ok.run pins s' σ H Q I (z s H0 C cl fp)⟩) hs, fun H σ S Q q => ?_⟩
  refine ka H σ S _ fun a xs H1 s1 h1' h2 => ?_
  refine ⟨a, rfl, ⟨xs, h1'⟩, fun Dl hD => ?_⟩
  have S1 := S.mono s1
  have hl := h2.len
  rw [List.length_map] at hl
  have Sw : SOk X.K B r H1 (wipe σ [ix, jx]) := by
    have S' := (S1.setNo (i := jx)).setNo (i := ix)
    rw [set_self h1, set_self h0] at S'
    exact S'
  refine lc_list (g := gTup X.K 2 (gCons (gName ix) (gCons (gName jx) gNil))) (tt := tYes) (te := fun σ H Q => ∀ s H0 C cl fp, wE (Blk X scope s H0 cl C fp) elt σ H Q) (vs := [ix, jx]) (σ := σ) (K := X.K) (a := a) (xs := xs) (fun i H' => LcW X.K B r (wipe σ [ix, jx]) H1 Dl ((L.take i).map f) H') ⟨same_new hD, Sw.dock hD, fun z => S1.dom Dl (List.mem_append_right _ (S1.gp Dl z)) hD, [], upd_same, .nil⟩ (fun i H' _ p => p.1.seq h1') (fun i v H' hv p => ?_) fun H' p => let ⟨p1, _, _, acc, p2, p3⟩ := p; q Dl H1 H' acc _ rfl s1 hD S1 p1 p2 ?_
  · obtain ⟨d, hd, rd⟩ := h2.getV hv
    rw [List.getElem?_map] at hd
    cases e : L[i]? with
    | none => rw [e] at hd; cases hd
    | some u =>
      rw [e] at hd
      cases hd
      have e2 : (L.take (i + 1)).map f = (L.take i).map f ++ [f u] := by rw [List.take_succ, e, List.map_append]; rfl
      rw [e2]
      have hi' := (List.getElem?_eq_some_iff.mp e).1
      exact lcW_turn hne h0 h1 hD (by rw [List.length_map, List.length_take]; omega) (fun s H0 C cl fp H' q' => he s H0 C cl fp H' q' u (List.mem_of_getElem? e)) p (rd.mono (p.see hD))
  · rw [hl, List.take_length] at p3
    exact p3
end
end Tp

/-! a reference and None; d.get(k, x) of a dict that a call makes; a comparison whose second part turns ghosts -/
namespace Tp
open PySem L2
section
variable {X : Cx} {B : Bx} {W : WX} {P : Po} {r q : List Sl} {e a b o f tg c : Expr} {es : List Expr} {rest body orelse : List Stmt} {d d1 : D} {ds : List D} {pos pos' p1 p2 apos cpos : Pos} {k kk n iG : Nat} {x y : Str} {p l : Addr} {gl : List (Addr × Nd)} {Po Po1 : Rs → List (Addr × Nd) → Prop}
theorem ref_non (p : Addr) : decide (V.ref p = V.non) = false := decide_eq_false fun z => by cases z
theorem etRfIs (ha : ER X B a r p) (hb : EV X B b r .none) (hm : behindInMarks CmpOp.Is b = false := by first | exact nomark _ | rfl) : ET X B (.Compare a [.Is] [b] pos) r false := by
  obtain ⟨ta, pa, ka⟩ := ha
  obtain ⟨tb, pb, kb⟩ := hb
  exact ⟨_, pt_cmpR op_isN pa pb hm, fun H σ S Q q => ka H σ S _ fun H1 s1 => kb H1 σ (S.mono s1) _ fun y H2 s2 r2 => by
    cases r2
    exact ⟨rfl, false, by rw [ref_non], q H2 (s1.trans s2)⟩⟩
theorem etRfNot (ha : ER X B a r p) (hb : EV X B b r .none) (hm : behindInMarks CmpOp.IsNot b = false := by first | exact nomark _ | rfl) : ET X B (.Compare a [.IsNot] [b] pos) r true := by
  obtain ⟨ta, pa, ka⟩ := ha
  obtain ⟨tb, pb, kb⟩ := hb
  exact ⟨_, pt_cmpR op_notN pa pb hm, fun H σ S Q q => ka H σ S _ fun H1 s1 => kb H1 σ (S.mono s1) _ fun y H2 s2 r2 => by
    cases r2
    exact ⟨rfl, true, by rw [ref_non]; rfl, q H2 (s1.trans s2)⟩⟩
theorem evRfIs (ha : ER X B a r p) (hb : EV X B b r .none) (hm : behindInMarks CmpOp.Is b = false := by first | exact nomark _ | rfl) : EV X B (.Compare a [.Is] [b] pos) r (.bool false) := by
  obtain ⟨ta, pa, ka⟩ := ha
  obtain ⟨tb, pb, kb⟩ := hb
  exact ⟨_, pe_cmpR op_isN pa pb hm, fun H σ S Q q => ka H σ S _ fun H1 s1 => kb H1 σ (S.mono s1) _ fun y H2 s2 r2 => by
    cases r2
    exact ⟨rfl, by rw [ref_non]; exact q _ H2 (s1.trans s2) (.bl false)⟩⟩
theorem evRfNot (ha : ER X B a r p) (hb : EV X B b r .none) (hm : behindInMarks CmpOp.IsNot b = false := by first | exact nomark _ | rfl) : EV X B (.Compare a [.IsNot] [b] pos) r (.bool true) := by
  obtain ⟨ta, pa, ka⟩ := ha
  obtain ⟨tb, pb, kb⟩ := hb
  exact ⟨_, pe_cmpR op_notN pa pb hm, fun H σ S Q q => ka H σ S _ fun H1 s1 => kb H1 σ (S.mono s1) _ fun y H2 s2 r2 => by
    cases r2
    exact ⟨rfl, by rw [ref_non]; exact q _ H2 (s1.trans s2) (.bl true)⟩⟩
theorem eoGet2 (g : Go X W kk) (he : EOb X B W iG o r Po1 fun _ _ => False) (hG : r[iG]? = some (.gs gl))
    (h : ∀ s gl', Po1 s gl' → ∃ l kvs key d0 d1, s = .rf l ∧ (l, Nd.dc kvs) ∈ gl' ∧ EV X B a (r.set iG (.gs gl')) (kD key) ∧ EV X B b (r.set iG (.gs gl')) d0 ∧ (lkI kvs key = none → d1 = d0) ∧ (∀ t, lkI kvs key = some t → t = .da d1) ∧ Po (.da d1) gl')
    (hb : attributeBase o "get" X.env (eval o X.env) = eval o X.env := by rfl) (hl : (apos.endLine == cpos.line) = true := by rfl) (hst : NSt X a := by exact fun _ => rfl) (hst2 : NSt X b := by exact fun _ => rfl) : EOb X B W iG (.Call (.Attribute o "get" apos) [a, b] [] cpos) r Po fun _ _ => False := by
  obtain ⟨to, po, ko⟩ := he
  refine ⟨_, pe_dget2 (hu_of g.hr) po (wE_ok (e := a)) (wE_ok (e := b)) ⟨hb, by rw [hst, hst2]; rfl, hl, by rw [hst, hst2]; rfl⟩, fun H σ S Q q _ => ko H σ S _ (fun s v gl' H1 S1 ro hP => ?_) fun _ _ _ _ z => z.elim⟩
  obtain ⟨l, kvs, key, d0, d1, rfl, hm, ⟨t', pp', kp'⟩, ⟨t2, pp2, kp2⟩, h0, h1, hPo⟩ := h s gl' hP
  cases ro
  have hG2 := get_set (s' := .gs gl') hG
  have hI : InG B (r.set iG (.gs gl')) (l, .dc kvs) := .inr (.inl ⟨iG, gl', hG2, hm⟩)
  obtain ⟨us, e1, ik⟩ := hI.ok S1
  refine ⟨l, rfl, .inl ⟨us, .inl e1⟩, t', pp', kp' H1 σ S1 _ fun v H2 s2 w => ⟨t2, pp2, kp2 H2 σ (S1.mono s2) _ fun v2 H3 s3 w2 => ?_⟩⟩
  rw [w.key]
  have e2 : H3 l = some (.dK us) := s3.k (s2.k e1 trivial) trivial
  have S3 := (S1.mono s2).mono s3
  refine ⟨_, .inl ⟨us, key, .inl e2, rfl, rfl⟩, ?_⟩
  rcases ((ik.mono (hide_mono s2)).mono (hide_mono s3)).find (k := key) with ⟨j1, j2⟩ | ⟨v', d', j1, j2, j3⟩
  · rw [j1]; refine q (.da d1) v2 gl' H3 S3 ?_ hPo; rw [h0 j2]; exact w2
  · rw [j1]
    have := h1 d' j2
    subst this
    exact q (.da d1) v' gl' H3 S3 j3 hPo
theorem etgCmpV {op : CmpOp} {i : Int} {Pk : Bool → List (Addr × Nd) → Prop} (ha : EV X B a r (.int i)) (hb : EOb X B W iG b r Po1 fun _ _ => False) (h : ∀ s gl', Po1 s gl' → ∃ d2 k, s = .da d2 ∧ CV X op (.int i) d2 k ∧ Pk k gl') (hm : behindInMarks op b = false := by first | exact nomark _ | rfl) : ETg X B W iG (.Compare a [op] [b] pos) r Pk := by
  obtain ⟨ta, pa, ka⟩ := ha
  obtain ⟨tb, pb, kb⟩ := hb
  refine ⟨_, pt_cmpR wR_ok pa pb hm, fun H σ S Q q => ka H σ S _ fun u H1 s1 ru => kb H1 σ (S.mono s1) _ (fun s v gl' H' S' ro ho => ?_) fun _ _ _ _ z => z.elim⟩
  cases ru
  obtain ⟨d2, k, rfl, ⟨rr, po, ko⟩, hPo⟩ := h s gl' ho
  have ro : Rp X.K (hid B (r.set iG (.gs gl')) H') v d2 := ro
  exact ⟨rr, po, ko H' _ v (.int i) (ro.mono hide_same) _ ⟨k, rfl, q k gl' H' S' hPo⟩⟩
end
end Tp

/-! the ghosts behind an expression, in another order; some of them forgotten -/
namespace Tp
open PySem L2
section
variable {X : Cx} {B : Bx} {W : WX} {r : List Sl} {e : Expr} {iG : Nat} {gl gl' gl2 : List (Addr × Nd)} {Po1 Po2 : Rs → List (Addr × Nd) → Prop} {K : PySem.W.Frag} {H : Hp} {σ : St}
theorem hid_mem {r r' : List Sl} (h : ∀ p, p ∈ own r ↔ p ∈ own r') : hid B r H = hid B r' H := by
  funext b
  show hide H (own r ++ B.ps) b = hide H (own r' ++ B.ps) b
  by_cases hb : b ∈ own r ++ B.ps
  · rw [hide_in hb, hide_in ((List.mem_append.mp hb).elim (fun z => List.mem_append_left _ ((h b).mp z)) fun z => List.mem_append_right _ z)]
  · rw [hide_out hb, hide_out fun z => hb ((List.mem_append.mp z).elim (fun y => List.mem_append_left _ ((h b).mpr y)) fun y => List.mem_append_right _ y)]
theorem SOk.gperm (S : SOk K B r H σ) (hG : r[iG]? = some (.gs gl)) (hp : gl.Perm gl2) : SOk K B (r.set iG (.gs gl2)) H σ := by
  obtain ⟨G, nd⟩ := S.ghosts hG
  exact S.gset hG (fun _ _ e _ => .inl e) ((gown_perm hp).nodup_iff.mp nd) (fun p hp' => .inl ((gown_perm hp).mem_iff.mpr hp')) fun hh => (GOk.mono hh (fun _ _ => rfl) G).perm hp
theorem own_gperm (hl : iG < r.length) (hp : gl.Perm gl2) (p : Addr) : p ∈ own (r.set iG (.gs gl)) ↔ p ∈ own (r.set iG (.gs gl2)) := by
  rw [(own_perm_set (s := .gs gl) hl).mem_iff, (own_perm_set (s := .gs gl2) hl).mem_iff, List.mem_append, List.mem_append]
  show (p ∈ gown gl ∨ _) ↔ (p ∈ gown gl2 ∨ _)
  rw [(gown_perm hp).mem_iff]
theorem eoPerm (he : EOb X B W iG e r Po1 fun _ _ => False) (hG : r[iG]? = some (.gs gl)) (h : ∀ s gl', Po1 s gl' → ∃ gl2, gl'.Perm gl2 ∧ Po2 s gl2) : EOb X B W iG e r Po2 fun _ _ => False := by
  obtain ⟨t, p, q⟩ := he
  have hl : iG < r.length := (List.getElem?_eq_some_iff.mp hG).1
  refine ⟨t, p, fun H σ S Q z _ => q H σ S Q (fun s v gl' H' S' ro ho => ?_) fun _ _ _ _ y => y.elim⟩
  obtain ⟨gl2, hp, ho2⟩ := h s gl' ho
  have hG2 : (r.set iG (.gs gl'))[iG]? = some (.gs gl') := get_set (s' := .gs gl') hG
  have S2 := S'.gperm hG2 hp
  rw [set_set] at S2
  exact z s v gl2 H' S2 (by rw [← hid_mem (own_gperm hl hp)]; exact ro) ho2
end
end Tp

/-! tuples among the ghosts; list(a dict); dicts of ints compared -/
namespace LiJ
open PySem PySem.Spec PyProof.Rows L2
section
variable {X : Cx} {a : Expr} {ta : TE}
/-- list(x) of a dict -/
def kLstK (x : V) (H : Hp) (Q : VK) : Prop := ∃ (d : Addr) (kvs : List (Key × V)), x = .ref d ∧ H d = some (.dK kvs) ∧ ∀ l, H l = none → Q (.ref l) (upd H l (.lst (kvs.map fun q => kV q.1)))
theorem rl_listK (hc : X.calm = true) (pins : List (Addr × Obj)) (s : Shared) (σ : L2.St) (H : Hp) (x : V) (v : Value) (Q : VK) (I : Inv X pins σ H s) (r : RelV x v) (h : kLstK x H Q) :
    wpAny (model X.prog X.w) X.A (call (.type "list") [v]) (EP X pins σ Q) X.xe s := by
  obtain ⟨d, kvs, rfl, hd, q⟩ := h
  obtain rfl : v = Value.ref d := r
  obtain ⟨hz, hs0, vs, kv, hdo⟩ := I.hok d _ hd
  obtain ⟨ep, hat⟩ := hdo.dictAt
  have lk : kvs.length = vs.length := Paired.length kv
  refine PySem.W.kdl_call (n := vs.length) (PySem.W.kdl_dict (knd := mixKind X.prog X.w) (kvs := vs) (ep := ep) (d := d) hs0) (I.ok.hd hc) hat (by omega) fun h' tk acc c hk hS hacc => ?_
  have hvals : Vals (kvs.map fun q => kV q.1) acc.toList := by
    refine vals_of_idx _ _ (by rw [List.length_map, lk, Array.length_toList]; exact hacc.1) fun j u hu => ?_
    obtain ⟨k, x, f1, f3⟩ := hacc.2 j u (by rw [← Array.getElem?_toList]; exact hu)
    have hj : j < kvs.length := by rw [lk]; exact (List.getElem?_eq_some_iff.mp f1).1
    have e2 : kvs[j]? = some kvs[j] := List.getElem?_eq_getElem hj
    obtain ⟨qv, g1, g2, g3⟩ := LiI.paired_get kv e2
    rw [f1] at g1
    cases g1
    refine ⟨kV kvs[j].1, by rw [List.getElem?_map, e2]; rfl, ?_⟩
    rw [g2]
    exact relV_key (show keyIs k u = true from f3)
  obtain ⟨k1, J⟩ := LiK.keys_laid (tk := tk) I hz hk hS hvals
  exact ⟨.ref _, _, J, rfl, q _ k1⟩
theorem pe_listOfK {p pos : Pos} (hc : X.calm = true) (hg : Gl X "list") (hm : X.mg "list" = none) (ha : PE X a ta) (na : starEach [a] X.env = (false, eval a X.env) :: starEach [] X.env := by rfl) :
    PE X (.Call (.Name "list" p) [a] [] pos) (tThenZ ta kLstK) := pe_callTy (call_r1 (rl_listK hc)) hg hm (by decide +kernel) (pa_cons ha pa_nil na) (he := na)
end
end LiJ
namespace Tp
open PySem L2
section
variable {X : Cx} {B : Bx} {W : WX} {P : Po} {r q : List Sl} {e a b o f tg c : Expr} {es : List Expr} {rest body orelse : List Stmt} {d d1 : D} {ds : List D} {pos pos' p1 p2 apos cpos : Pos} {k kk n iG : Nat} {x y : Str} {p l : Addr} {gl : List (Addr × Nd)} {its : List It} {kvs : List (Key × It)} {Po Po1 : Rs → List (Addr × Nd) → Prop}
theorem SOk.gaddT {iG : Nat} {K : PySem.W.Frag} {H : Hp} {σ : St} {vs : List V} {is : List It} (S : SOk K B r H σ) (hG : r[iG]? = some (.gs gl)) (hl : H l = none) (iv : ItA K (hid B r H) vs is) :
    SOk K B (r.set iG (.gs (gl ++ [(l, Nd.tp is)]))) (upd H l (.tup vs)) σ := by
  obtain ⟨G, nd⟩ := S.ghosts hG
  have nl : l ∉ gown gl := fun z => by obtain ⟨u, eu, nt⟩ := GOk.there G z; rw [hl] at eu; cases eu
  have hs : gown (gl ++ [(l, Nd.tp is)]) = gown gl ++ [l] := gown_app _ _
  refine S.gset hG (fun a o ea ha => by rw [upd_ne (ne_of_none ea hl)]; exact .inl ea) (by rw [hs]; exact List.nodup_append.mpr ⟨nd, by simp, fun x hx y hy e => nl (by cases List.mem_singleton.mp hy; exact e ▸ hx)⟩) (fun q hq => by
    rw [hs] at hq
    exact (List.mem_append.mp hq).elim .inl fun z => .inr (List.mem_singleton.mp z ▸ hl)) fun hh => ?_
  exact GOk.app (GOk.mono hh (fun q hq => upd_ne fun z => nl (z ▸ hq)) G) ⟨⟨_, upd_same, iv.mono hh⟩, trivial⟩
/-- a new tuple of data and references, among the ghosts -/
theorem eoTp {m : Nat} (h : EAi X B es r its) (hG : r[iG]? = some (.gs gl)) (hl : its.length ≤ 100000 := by first | decide | simp) : EOb X B W iG (.Tuple es m pos) r (fun s gl' => ∃ l, s = .rf l ∧ gl' = gl ++ [(l, Nd.tp its)]) (fun _ _ => False) := by
  obtain ⟨t, p, q⟩ := h
  refine ⟨_, pe_tup p, fun H σ S Q z _ => q H σ S _ fun vs H1 s1 y => ⟨by rw [y.len]; exact line_of hl, fun l hl => ?_⟩⟩
  exact z (.rf l) (.ref l) _ _ ((S.mono s1).gaddT (iG := iG) hG hl y) rfl ⟨l, rfl, rfl⟩
def It.sl : It → Sl
  | .da d => .im d
  | .rf a => .rf a
def GTi (X : Cx) (B : Bx) (tgs : List Expr) (r : List Sl) (its : List It) (q : List Sl) : Prop :=
  ∃ g, PGs X tgs g ∧ ∀ H σ vs, SOk X.K B r H σ → ItA X.K (hid B r H) vs its → ∀ Q : St → Hp → Prop, (∀ σ', SOk X.K B q H σ' → Q σ' H) → g vs σ H Q
theorem gti_nil : GTi X B [] r [] r := ⟨_, pgs_nil, fun H σ vs S y Q h => by cases y; exact ⟨rfl, h _ S⟩⟩
theorem gti_cons {t : It} (i : Nat) {x : Str} (hN : X.N.Nodup) (h2 : GTi X B es (r.set i t.sl) its q) (hi : X.N[i]? = some x := by rfl) (hx : Loc X.env.scope x := by first | exact Or.inl rfl | exact Or.inr rfl) (hf : X.fn x = true ∨ X.env.scope.names.lookup x = some .local := by first | exact .inl rfl | exact .inr rfl)
    (hs : (assignEach (.Name x pos :: es) X.env).map (·.2) = assign (.Name x pos) X.env :: (assignEach es X.env).map (·.2) := by rfl) : GTi X B (.Name x pos :: es) r (t :: its) q := by
  obtain ⟨g, p, k⟩ := h2
  refine ⟨_, pgs_cons (pg_name hN hi hx hf) p hs, fun H σ vs S y Q h => ?_⟩
  cases y with
  | cons y1 y2 =>
    have hs : ownOf t.sl = [] := by cases t <;> rfl
    refine ⟨_, _, rfl, k H _ _ (S.set hs ?_) (y2.mono (hide_sub fun p hp => ?_)) Q h⟩
    · cases t with
      | da d => exact ⟨_, rfl, y1⟩
      | rf a => exact congrArg (fun z => some (some z)) y1
    · exact (List.mem_append.mp hp).elim (fun z => (own_set_mem z).elim (fun w => by rw [hs] at w; cases w) fun w => List.mem_append_left _ w) fun z => List.mem_append_right _ z
/-- x, y = a tuple among the ghosts -/
theorem sv_asgTG {m : Nat} {tpos : Pos} {Ex : Addr → List (Addr × Nd) → Prop} (iG : Nat) (g : Go X W k) (he : EOb X B W iG e r Po Ex) (hG : r[iG]? = some (.gs gl))
    (h : ∀ s gl', Po s gl' → ∃ l its q, s = .rf l ∧ (l, Nd.tp its) ∈ gl' ∧ GTi X B es (r.set iG (.gs gl')) its q ∧ (assignEach es X.env).length = its.length ∧ SV X B W rest q P) (hxe : ∀ C gl', Ex C gl' → P.ex C (r.set iG (.gs gl')))
    (hst : (assignEach es X.env).findIdx? (·.1) = none := by rfl) (hs : swapsWithSole [.Tuple es m tpos] e pos.line X.env = pure false := by rfl) (hw : swappedStores [.Tuple es m tpos] e X.env = pure none := by rfl)
    (h1 : (assignEach [.Tuple es m tpos] X.env).map (·.2) = [assign (.Tuple es m tpos) X.env] := by rfl) : SV X B W (.Assign [.Tuple es m tpos] e pos :: rest) r P := fun H σ E S kt => by
  obtain ⟨te, p, k⟩ := he
  refine ⟨_, pss_cons (ps_asg p (wG_ok (tg := .Tuple es m tpos)) hs hw h1) wS_ok, k H σ S _ (fun s v gl' H' S' ro ho => ?_) fun C gl' H' S' hx' => kt.ex C _ σ H' S' (hxe C gl' hx')⟩
  obtain ⟨l, its, q, rfl, hm, ⟨gx, pg, kg⟩, hn, hk⟩ := h s gl' ho
  cases ro
  have hG2 := get_set (s' := .gs gl') hG
  have hI : InG B (r.set iG (.gs gl')) (l, .tp its) := .inr (.inl ⟨iG, gl', hG2, hm⟩)
  obtain ⟨vs, e1, ia⟩ := hI.ok S'
  exact ⟨_, pg_tup g.calm pg hn hst, l, vs, rfl, SqT.of e1, ia.len, kg H' σ vs S' ia _ fun σ' S2 => hk H' σ' E S2 kt⟩
theorem ItK.keyR {K : PySem.W.Frag} {Hh H : Hp} {us : List (Key × V)} {kvs : List (Key × It)} (h : ItK K Hh us kvs) : RpA K H (us.map fun q => L2.kV q.1) (kvs.map fun x => kD x.1) := by
  induction h with
  | nil => exact .nil
  | cons _ _ ih => exact .cons (rp_key _) ih
theorem evListKI (g : Go X W kk) (he : ER X B e r l) (hG : InG B r (l, Nd.dc kvs)) (hm : X.mg "list" = none) (hg : Gl X "list" := by rfl) (na : starEach [e] X.env = (false, eval e X.env) :: starEach [] X.env := by rfl) : EV X B (.Call (.Name "list" p1) [e] [] pos) r (.list (kvs.map fun x => kD x.1)) := by
  obtain ⟨t, pp, q⟩ := he
  refine ⟨_, LiJ.pe_listOfK g.calm hg hm pp na, fun H σ S Q z => q H σ S _ fun H1 s1 => ?_⟩
  obtain ⟨us, e1, ik⟩ := hG.ok (S.mono s1)
  exact (show LiJ.kLstK _ _ _ from ⟨l, us, rfl, e1, fun l2 h2 => z _ _ (s1.trans (same_new h2)) (.lst (SqL.of (hide_new h2 (S.mono s1).dom)) ik.keyR)⟩)
end
/-! dicts of data compared -/
section
variable {X : Cx}
def rKd (K : PySem.W.Frag) (k : Bool) : R2 := fun x y H Q => ∃ a b us ws, x = .ref a ∧ y = .ref b ∧ H a = some (.dK us) ∧ H b = some (.dK ws) ∧ us.length = ws.length ∧ (∀ p ∈ us, ∃ w d, valV ws p.1 = some w ∧ Dp K H p.2 d ∧ Dp K H w d ∧ SeqAt.shaped d = true) ∧ Q (.bl k) H
theorem hits_dd {A : Around} {pins : List (Addr × Obj)} {σ : L2.St} {H : Hp} {s : Shared} (I : Inv X pins σ H s) (hu : A.in1.units + 64 < cLine) {kvs : List (Key × V)} {vb : List (Key × Value)} (rb : KV kvs vb) {ks : List (Key × V)} {va : List (Key × Value)} (ra : KV ks va) :
    (∀ p ∈ ks, ∃ w d, valV kvs p.1 = some w ∧ Dp X.K H p.2 d ∧ Dp X.K H w d ∧ SeqAt.shaped d = true) → PySem.W.KeqHits A.in1 s vb va true := by
  unfold KV at ra
  induction ra with
  | nil => intro _; exact .nil
  | @cons p q ps qs h t ih =>
    intro hp
    obtain ⟨h1, h2⟩ := h
    obtain ⟨w, d, e, d1, d2, sh⟩ := hp p List.mem_cons_self
    have rr : RelO (some w) (valueAt vb p.1) := by rw [← e]; exact rb.val p.1
    obtain ⟨y, hy, ry⟩ := rr.some_of
    obtain ⟨k, v⟩ := q
    have h1' : p.1 = k := h1
    rw [h1'] at hy
    obtain ⟨as, r1⟩ := Dp.reads I d p.2 v d1 h2
    obtain ⟨bs, r2⟩ := Dp.reads I d w y d2 ry
    have hq := PySem.W.keq_at (A := A) r1 r2 sh sh hu
    rw [SeqAt.eqv_refl d (SeqAt.canLay_of_shaped sh)] at hq
    show PySem.W.KeqHits A.in1 s vb ((k, v) :: qs) (true && true)
    exact .hit hy hq (ih fun p' hm => hp p' (List.mem_cons_of_mem _ hm))
theorem op_eqKd (hu : X.A.units + 65 < cLine) : OpR X (compareOp .Eq) (rKd X.K true) := by
  intro pins s σ H x y v u Q I rx ry h
  obtain ⟨a, b, ks, ls, rfl, rfl, ea, eb, hlen, hp, q⟩ := h
  obtain rfl : v = Value.ref a := rx
  obtain rfl : u = Value.ref b := ry
  obtain ⟨_, ya, va, ra, da⟩ := (show ObjOk X.prog X.w H s.heap a (.dK ks) from I.hok a _ ea)
  obtain ⟨_, yb, vb, rb, db⟩ := (show ObjOk X.prog X.w H s.heap b (.dK ls) from I.hok b _ eb)
  have hl : va.length = vb.length := by rw [← ra.length, ← rb.length]; exact hlen
  exact PySem.W.keq_eq (knd := mixKind X.prog X.w) (r := true) ya yb da db (by omega) (fun _ => hits_dd I (by show X.A.units + 1 + 64 < cLine; omega) rb ra hp) (fin_bl I q (by simp [hl]))
theorem op_neKd (hu : X.A.units + 65 < cLine) : OpR X (compareOp .NotEq) (rKd X.K false) := by
  intro pins s σ H x y v u Q I rx ry h
  obtain ⟨a, b, ks, ls, rfl, rfl, ea, eb, hlen, hp, q⟩ := h
  obtain rfl : v = Value.ref a := rx
  obtain rfl : u = Value.ref b := ry
  obtain ⟨_, ya, va, ra, da⟩ := (show ObjOk X.prog X.w H s.heap a (.dK ks) from I.hok a _ ea)
  obtain ⟨_, yb, vb, rb, db⟩ := (show ObjOk X.prog X.w H s.heap b (.dK ls) from I.hok b _ eb)
  have hl : va.length = vb.length := by rw [← ra.length, ← rb.length]; exact hlen
  exact PySem.W.keq_ne (knd := mixKind X.prog X.w) (r := true) ya yb da db (by omega) (fun _ => hits_dd I (by show X.A.units + 1 + 64 < cLine; omega) rb ra hp) (fin_bl I q (by simp [hl]))
end
section
variable {X : Cx} {B : Bx} {W : WX} {r : List Sl} {a b : Expr} {pos : Pos} {kk : Nat} {kvs ls : List (Key × D)}
theorem dd_ok {K : PySem.W.Frag} {H Hh : Hp} {us ws : List (Key × V)} (hh : Same Hh H) (ra : RpK K Hh us kvs) (rb : RpK K Hh ws ls) (hp : ∀ p ∈ kvs, lkK ls p.1 = some p.2 ∧ Shp 62 p.2) : ∀ p ∈ us, ∃ w d, valV ws p.1 = some w ∧ Dp K H p.2 d ∧ Dp K H w d ∧ SeqAt.shaped d = true := by
  induction us generalizing kvs with
  | nil => intro p h; cases h
  | cons q us ih =>
    cases ra with
    | @cons k v _ d ds r1 r2 =>
      intro p hm
      rcases List.mem_cons.mp hm with e | hm
      · subst e
        obtain ⟨h1, h2⟩ := hp _ List.mem_cons_self
        have sh : SeqAt.shaped d = true := Bool.and_eq_true_iff.mpr ⟨h2.ok.1, decide_eq_true (Nat.le_trans h2.ok.2 (by decide))⟩
        rcases rb.find (k := k) with ⟨_, j2⟩ | ⟨w, d', j1, j2, j3⟩
        · rw [h1] at j2; cases j2
        · rw [h1] at j2; cases j2
          exact ⟨w, d, j1, (r1.mono hh).dp h2, (j3.mono hh).dp h2, sh⟩
      · exact ih r2 (fun p hp' => hp p (List.mem_cons_of_mem _ hp')) p hm
theorem etDne (g : Go X W kk) (ha : EK X B a r kvs) (hb : EK X B b r ls) (hl : kvs.length = ls.length) (hp : ∀ p ∈ kvs, lkK ls p.1 = some p.2 ∧ Shp 62 p.2) (hm : behindInMarks CmpOp.NotEq b = false := by first | exact nomark _ | rfl) : ET X B (.Compare a [.NotEq] [b] pos) r false := by
  obtain ⟨ta, pa, ka⟩ := ha
  obtain ⟨tb, pb, kb⟩ := hb
  refine ⟨_, pt_cmpR (op_neKd g.un65) pa pb hm, fun H σ S Q q => ka H σ S _ fun l1 us H1 s1 e1 r1 => kb H1 σ (S.mono s1) _ fun l2 ws H2 s2 e2 r2 => ?_⟩
  have r1' := r1.mono (hide_mono s2)
  exact ⟨l1, l2, us, ws, rfl, rfl, s2.k e1, e2, by rw [r1.len, r2.len]; exact hl, dd_ok hide_same r1' r2 hp, false, rfl, q H2 (s1.trans s2)⟩
theorem evDne (g : Go X W kk) (ha : EK X B a r kvs) (hb : EK X B b r ls) (hl : kvs.length = ls.length) (hp : ∀ p ∈ kvs, lkK ls p.1 = some p.2 ∧ Shp 62 p.2) (hm : behindInMarks CmpOp.NotEq b = false := by first | exact nomark _ | rfl) : EV X B (.Compare a [.NotEq] [b] pos) r (.bool false) := by
  obtain ⟨ta, pa, ka⟩ := ha
  obtain ⟨tb, pb, kb⟩ := hb
  refine ⟨_, pe_cmpR (op_neKd g.un65) pa pb hm, fun H σ S Q q => ka H σ S _ fun l1 us H1 s1 e1 r1 => kb H1 σ (S.mono s1) _ fun l2 ws H2 s2 e2 r2 => ?_⟩
  have r1' := r1.mono (hide_mono s2)
  exact ⟨l1, l2, us, ws, rfl, rfl, s2.k e1, e2, by rw [r1.len, r2.len]; exact hl, dd_ok hide_same r1' r2 hp, q _ H2 (s1.trans s2) (.bl false)⟩
theorem etDeq (g : Go X W kk) (ha : EK X B a r kvs) (hb : EK X B b r ls) (hl : kvs.length = ls.length) (hp : ∀ p ∈ kvs, lkK ls p.1 = some p.2 ∧ Shp 62 p.2) (hm : behindInMarks CmpOp.Eq b = false := by first | exact nomark _ | rfl) : ET X B (.Compare a [.Eq] [b] pos) r true := by
  obtain ⟨ta, pa, ka⟩ := ha
  obtain ⟨tb, pb, kb⟩ := hb
  refine ⟨_, pt_cmpR (op_eqKd g.un65) pa pb hm, fun H σ S Q q => ka H σ S _ fun l1 us H1 s1 e1 r1 => kb H1 σ (S.mono s1) _ fun l2 ws H2 s2 e2 r2 => ?_⟩
  have r1' := r1.mono (hide_mono s2)
  exact ⟨l1, l2, us, ws, rfl, rfl, s2.k e1, e2, by rw [r1.len, r2.len]; exact hl, dd_ok hide_same r1' r2 hp, true, rfl, q H2 (s1.trans s2)⟩
theorem evDeq (g : Go X W kk) (ha : EK X B a r kvs) (hb : EK X B b r ls) (hl : kvs.length = ls.length) (hp : ∀ p ∈ kvs, lkK ls p.1 = some p.2 ∧ Shp 62 p.2) (hm : behindInMarks CmpOp.Eq b = false := by first | exact nomark _ | rfl) : EV X B (.Compare a [.Eq] [b] pos) r (.bool true) := by
  obtain ⟨ta, pa, ka⟩ := ha
  obtain ⟨tb, pb, kb⟩ := hb
  refine ⟨_, pe_cmpR (op_eqKd g.un65) pa pb hm, fun H σ S Q q => ka H σ S _ fun l1 us H1 s1 e1 r1 => kb H1 σ (S.mono s1) _ fun l2 ws H2 s2 e2 r2 => ?_⟩
  have r1' := r1.mono (hide_mono s2)
  exact ⟨l1, l2, us, ws, rfl, rfl, s2.k e1, e2, by rw [r1.len, r2.len]; exact hl, dd_ok hide_same r1' r2 hp, q _ H2 (s1.trans s2) (.bl true)⟩
end
end Tp

/-! tests with turning parts anywhere; a loop over the list that a call makes -/
namespace Tp
open PySem L2
section
variable {X : Cx} {B : Bx} {W : WX} {P : Po} {r q : List Sl} {e a b o f tg c : Expr} {es rest : List Expr} {body sts : List Stmt} {ds : List D} {pos pos' : Pos} {k kk n iG : Nat} {gl : List (Addr × Nd)} {Po : Rs → List (Addr × Nd) → Prop}
def EWg (X : Cx) (B : Bx) (W : WX) (iG : Nat) (c : Expr) (r : List Sl) (Pk : Bool → List (Addr × Nd) → Prop) : Prop :=
  ∃ t, PW X c t ∧ ∀ H σ, SOk X.K B r H σ → ∀ Q : Bool → Hp → Prop, (∀ k gl' H', SOk X.K B (r.set iG (.gs gl')) H' σ → Pk k gl' → Q k H') → t σ H Q
theorem EWg.t {Pk : Bool → List (Addr × Nd) → Prop} (h : EWg X B W iG c r Pk) : ETg X B W iG c r Pk := by
  obtain ⟨t, p, q⟩ := h
  exact ⟨t, p.pt, q⟩
theorem ewgOr1 {Pk : Bool → List (Addr × Nd) → Prop} (h : ETg X B W iG a r Pk) : EWg X B W iG (.BoolOp .Or [a] pos) r Pk := by
  obtain ⟨t, p, q⟩ := h
  exact ⟨t, pw_or1 p, q⟩
theorem ewgAnd1 {Pk : Bool → List (Addr × Nd) → Prop} (h : ETg X B W iG a r Pk) : EWg X B W iG (.BoolOp .And [a] pos) r Pk := by
  obtain ⟨t, p, q⟩ := h
  exact ⟨t, pw_and1 p, q⟩
/-- the last part, plain -/
theorem ewgOrE {z : Bool} (h : ET X B a r z) (hG : r[iG]? = some (.gs gl)) : EWg X B W iG (.BoolOp .Or [a] pos) r (fun y gl' => y = z ∧ gl' = gl) := ewgOr1 (etgT h hG)
theorem ewgAndE {z : Bool} (h : ET X B a r z) (hG : r[iG]? = some (.gs gl)) : EWg X B W iG (.BoolOp .And [a] pos) r (fun y gl' => y = z ∧ gl' = gl) := ewgAnd1 (etgT h hG)
theorem EWg.wk {Pk Pk2 : Bool → List (Addr × Nd) → Prop} (h : EWg X B W iG c r Pk) (h2 : ∀ z gl', Pk z gl' → Pk2 z gl') : EWg X B W iG c r Pk2 := by
  obtain ⟨t, p, q⟩ := h
  exact ⟨t, p, fun H σ S Q z => q H σ S Q fun k gl' H' S' hk => z k gl' H' S' (h2 k gl' hk)⟩
/-- a plain part that is false -/
theorem ewgOrV {Pk : Bool → List (Addr × Nd) → Prop} (h : ET X B a r false) (hb : EWg X B W iG (.BoolOp .Or (b :: rest) pos) r Pk) : EWg X B W iG (.BoolOp .Or (a :: b :: rest) pos) r Pk := by
  obtain ⟨t, p, q⟩ := h
  obtain ⟨t2, p2, q2⟩ := hb
  exact ⟨_, pw_or p p2, fun H σ S Q z => q H σ S _ fun H1 s1 => iteF (q2 H1 σ (S.mono s1) Q z)⟩
theorem ewgAndV {Pk : Bool → List (Addr × Nd) → Prop} (h : ET X B a r true) (hb : EWg X B W iG (.BoolOp .And (b :: rest) pos) r Pk) : EWg X B W iG (.BoolOp .And (a :: b :: rest) pos) r Pk := by
  obtain ⟨t, p, q⟩ := h
  obtain ⟨t2, p2, q2⟩ := hb
  exact ⟨_, pw_and p p2, fun H σ S Q z => q H σ S _ fun H1 s1 => iteT (q2 H1 σ (S.mono s1) Q z)⟩
/-- a turning part that is false -/
theorem ewgOrG {Pg : List (Addr × Nd) → Prop} {Pk : Bool → List (Addr × Nd) → Prop} (h : ETg X B W iG a r fun z gl' => z = false ∧ Pg gl') (hb : ∀ gl', Pg gl' → EWg X B W iG (.BoolOp .Or (b :: rest) pos) (r.set iG (.gs gl')) Pk) : EWg X B W iG (.BoolOp .Or (a :: b :: rest) pos) r Pk := by
  obtain ⟨t, p, q⟩ := h
  refine ⟨_, pw_or p (wW_ok (e := .BoolOp .Or (b :: rest) pos)), fun H σ S Q z => q H σ S _ fun k gl' H' S' hk => ?_⟩
  obtain ⟨rfl, hk⟩ := hk
  obtain ⟨t', p', q'⟩ := hb gl' hk
  refine iteF ⟨t', p', q' H' σ S' _ fun k2 gl2 H2 S2 hk2 => ?_⟩
  rw [set_set] at S2
  exact z k2 gl2 H2 S2 hk2
theorem ewgAndG {Pg : List (Addr × Nd) → Prop} {Pk : Bool → List (Addr × Nd) → Prop} (h : ETg X B W iG a r fun z gl' => z = true ∧ Pg gl') (hb : ∀ gl', Pg gl' → EWg X B W iG (.BoolOp .And (b :: rest) pos) (r.set iG (.gs gl')) Pk) : EWg X B W iG (.BoolOp .And (a :: b :: rest) pos) r Pk := by
  obtain ⟨t, p, q⟩ := h
  refine ⟨_, pw_and p (wW_ok (e := .BoolOp .And (b :: rest) pos)), fun H σ S Q z => q H σ S _ fun k gl' H' S' hk => ?_⟩
  obtain ⟨rfl, hk⟩ := hk
  obtain ⟨t', p', q'⟩ := hb gl' hk
  refine iteT ⟨t', p', q' H' σ S' _ fun k2 gl2 H2 S2 hk2 => ?_⟩
  rw [set_set] at S2
  exact z k2 gl2 H2 S2 hk2
/-- for x in a list that a call makes -/
theorem sv_forO (iG : Nat) {Po : Rs → List (Addr × Nd) → Prop} (g : Go X W k) (he : EOb X B W iG e r Po fun _ _ => False)
    (h : ∀ s gl', Po s gl' → ∃ (ds : List D) (I : Nat → List Sl → Prop) (tq : D → List Sl → List Sl), s = .da (.list ds) ∧ (∀ B (i : Nat) d r', ds[i]? = some d → GT X B tg r' d (tq d r')) ∧ I 0 (r.set iG (.gs gl')) ∧
      (∀ H1 (i : Nat) d r', ds[i]? = some d → I i r' → SV X ⟨H1, B.ps, B.ts, B.gr⟩ W body (tq d r') (P.loop (LN I (i + 1)) fun q => SV X B W sts q P)) ∧ ∀ r', I ds.length r' → SV X B W sts r' P)
    (hfs : ∀ x, foldedSetIterable e X.env x = pure x := by intro _; rfl) : SV X B W (.For tg e body [] pos :: sts) r P := fun H σ E S kt => by
  obtain ⟨te, pe, ke⟩ := he
  refine ⟨_, pss_cons (ps_for g.po g.calm (pi_list pe) (wG_ok (tg := tg)) (wS_ok (sts := body)) hfs) wS_ok, ?_⟩
  refine ke H σ S _ (fun s v gl' H1 S1 y ho => ?_) fun _ _ _ _ z => z.elim
  obtain ⟨ds, I, tq, rfl, ht, h0, hs, hd⟩ := h s gl' ho
  revert S1 y h0
  generalize r.set iG (.gs gl') = r
  intro S1 y h0
  cases y with
  | @lst a xs _ h1 h2 =>
    have z1 : SqL X.K (hide H1 (own r)) a xs := (hide_sub fun p hp => List.mem_append_left _ hp : Same (hid B r H1) (hide H1 (own r))).seq h1
    have z2 : RpA X.K (hide (hide H1 (own r)) B.ps) xs ds := h2.mono fun b o eo => by
      have eo : hide H1 (own r ++ B.ps) b = some o := eo
      by_cases hb : b ∈ own r ++ B.ps
      · rw [hide_in hb] at eo; cases eo
      · rw [hide_out hb] at eo
        rw [hide_out fun w => hb (List.mem_append_right _ w), hide_out fun w => hb (List.mem_append_left _ w)]
        exact .inl eo
    refine ⟨a, rfl, ⟨xs, hide_same.seq h1⟩, ?_⟩
    have hl : xs.length = ds.length := h2.len
    refine for_list (g := wG X tg) (tb := wS X body) (D := { E with nx := wS X sts E }) (K := X.K) (a := a) (xs := xs) (fun i σ' H' => ∃ r', SOk X.K (B.at r H1) r' H' σ' ∧ I i r') ⟨r, S1.rebase, h0⟩ (fun i σ' H' _ ⟨r', S', hI⟩ => S'.ex.seq (H := hide H1 (own r)) z1) (fun i x σ' H' hi ⟨r', S', hI⟩ => ?_) (fun σ' H' ⟨r', S', hI⟩ => hd r' (hl ▸ hI) H' σ' E (S1.back S') kt)
    obtain ⟨d, hd', rd⟩ := z2.getV hi
    obtain ⟨gx, px, kx⟩ := ht (B.at r H1) i d r' hd'
    have rd' : Rp X.K (hid (B.at r H1) r' H') x d := rd.mono fun b o eo => by
      show Ext1 o (hide H' (own r' ++ B.ps) b)
      by_cases hb : b ∈ B.ps
      · rw [hide_in hb] at eo; cases eo
      · rw [hide_out hb] at eo
        have e2 : Ext1 o (H' b) := S'.ex b o eo
        rw [hide_out fun w => (List.mem_append.mp w).elim (fun w' => by
          have := S'.new b w'
          rw [show (B.at r H1).H0 b = some o from eo] at this
          cases this) hb]
        exact e2
    exact ⟨gx, px, kx H' σ' _ S' rd' _ fun σ2 S2 => hs (hide H1 (own r)) i d r' hd' hI H' σ2 _ S2 (Kt.loop S1 kt _ fun q H3 σ3 S3 hI3 => ⟨q, S3, hI3⟩)⟩
end
end Tp

/-! dict comprehensions over a dict among the ghosts: a new dict of data or references -/
namespace Tp
open PySem L2
theorem dc_keysK {a : Addr} {ob : Obj} {us : List (Key × V)} {g : TG} {tt : TT} {tk tv : TE} {vs : List Nat} {σ : St} {H1 : Hp} {D : Addr} {Qd : Hp → Prop} (Pv : Nat → Hp → Prop) (h0 : Pv 0 (upd H1 D (.dK []))) (hl : ∀ i H, i ≤ us.length → Pv i H → H a = some (.frz ob (.dK us)))
    (hs : ∀ i k v H, us[i]? = some (k, v) → Pv i H → g (kV k) (wipe σ vs) H fun σ2 H2 => wipe σ2 vs = wipe σ vs ∧ tt σ2 H2 fun b H3 =>
      if b = true then tk σ2 H3 fun y H4 => tv σ2 H4 fun z H5 => ∃ kvs k, y = kV k ∧ H5 D = some (.dK kvs) ∧ kvs.length < sizeLine ∧ Pv (i + 1) (upd H5 D (.dK (putK kvs k z))) else Pv (i + 1) H3) (hd : ∀ H, Pv us.length H → Qd H) :
    ∃ W : Nat → Nat → Hp → Prop, (∃ m, W 0 m (upd H1 D (.dK []))) ∧ ∀ i m H, W i m H →
      ((Itk a ob us).stop i H ∧ Qd H) ∨ ((Itk a ob us).go i H ∧ ∃ Nx : Hp → Prop, (∀ H', Nx H' → ∃ m', m' < m ∧ W (i + 1) m' H') ∧ ∀ x H', (Itk a ob us).yld i H x H' → g x (wipe σ vs) H' fun σ2 H2 => wipe σ2 vs = wipe σ vs ∧ tt σ2 H2 fun b H3 =>
        if b = true then tk σ2 H3 fun y H4 => tv σ2 H4 fun z H5 => ∃ kvs k, y = kV k ∧ H5 D = some (.dK kvs) ∧ kvs.length < sizeLine ∧ Nx (upd H5 D (.dK (putK kvs k z))) else Nx H3) := by
  refine ⟨fun i m H => m = us.length - i ∧ i ≤ us.length ∧ Pv i H, ⟨us.length, by simp, Nat.zero_le _, h0⟩, ?_⟩
  rintro i m H ⟨rfl, hi, p⟩
  have q := hl i H hi p
  by_cases hlt : i < us.length
  · refine .inr ⟨⟨q, hlt⟩, Pv (i + 1), fun H' p' => ⟨us.length - (i + 1), by omega, rfl, hlt, p'⟩, fun x H' y => ?_⟩
    obtain ⟨e, k, v, hk, rfl⟩ := y
    subst e
    exact hs i k v _ hk p
  · have e : i = us.length := by omega
    subst e
    exact .inl ⟨⟨q, Nat.le_refl _⟩, hd H p⟩
/-- what stands in the new dict behind i turns -/
def dcO (pb : Key × It → Bool) (f : Key × It → It) (kvs : List (Key × It)) (i : Nat) : List (Key × It) := ((kvs.take i).filter pb).foldl (fun m u => putI2 m u.1 (f u)) []
theorem putI2_len (m : List (Key × It)) (k : Key) (t : It) : (putI2 m k t).length ≤ m.length + 1 := by
  unfold putI2
  split
  · rw [List.length_map]; omega
  · rw [List.length_append]; exact Nat.le_refl _
theorem fold_putI2 {α : Type} (fk : α → Key) (ft : α → It) : ∀ (l : List α) (m : List (Key × It)), (l.foldl (fun m u => putI2 m (fk u) (ft u)) m).length ≤ m.length + l.length
  | [], m => Nat.le_refl _
  | u :: l, m => by
    have h1 := fold_putI2 fk ft l (putI2 m (fk u) (ft u))
    have h2 := putI2_len m (fk u) (ft u)
    show (l.foldl _ (putI2 m (fk u) (ft u))).length ≤ m.length + (l.length + 1)
    omega
theorem dcO_len (pb : Key × It → Bool) (f : Key × It → It) (kvs : List (Key × It)) (i : Nat) : (dcO pb f kvs i).length ≤ i := by
  have h1 := fold_putI2 (fun u : Key × It => u.1) f ((kvs.take i).filter pb) []
  have h2 : ((kvs.take i).filter pb).length ≤ (kvs.take i).length := List.length_filter_le ..
  rw [List.length_take] at h2
  have h3 : ([] : List (Key × It)).length = 0 := rfl
  unfold dcO
  omega
theorem dcO_y {pb : Key × It → Bool} {f : Key × It → It} {kvs : List (Key × It)} {i : Nat} {u : Key × It} (h : kvs[i]? = some u) (hp : pb u = true) : dcO pb f kvs (i + 1) = putI2 (dcO pb f kvs i) u.1 (f u) := by
  unfold dcO
  rw [List.take_succ, h, List.filter_append, List.foldl_append]
  show List.foldl _ _ (List.filter pb [u]) = _
  rw [List.filter_cons, if_pos hp]; rfl
theorem dcO_n {pb : Key × It → Bool} {f : Key × It → It} {kvs : List (Key × It)} {i : Nat} {u : Key × It} (h : kvs[i]? = some u) (hp : pb u = false) : dcO pb f kvs (i + 1) = dcO pb f kvs i := by
  unfold dcO
  rw [List.take_succ, h, List.filter_append]
  show List.foldl _ _ (_ ++ List.filter pb [u]) = _
  rw [List.filter_cons, if_neg (by rw [hp]; decide)]
  show List.foldl _ _ (_ ++ []) = _
  rw [List.append_nil]
section
variable {X : Cx} {B : Bx} {W : WX} {P : Po} {r q : List Sl} {e a b o f tg c : Expr} {es : List Expr} {rest body orelse : List Stmt} {d : D} {ds : List D} {pos pos' p1 apos cpos : Pos} {k kk n iG m : Nat} {x : Str} {l p : Addr} {gl : List (Addr × Nd)} {kvs : List (Key × It)} {key : Key}
/-- an expression whose value is data or a reference -/
def EIt (X : Cx) (B : Bx) (e : Expr) (r : List Sl) (t : It) : Prop :=
  ∃ te, PE X e te ∧ ∀ H σ, SOk X.K B r H σ → ∀ Q : VK, (∀ v H', Same H H' → ItOk X.K (hid B r H') v t → Q v H') → te σ H Q
theorem eitD (h : EV X B e r d) : EIt X B e r (.da d) := h
theorem eitR (h : ER X B e r p) : EIt X B e r (.rf p) := by
  obtain ⟨t, pp, q⟩ := h
  exact ⟨t, pp, fun H σ S Q z => q H σ S _ fun H1 s1 => z _ H1 s1 rfl⟩
theorem SOk.gaddK {K : PySem.W.Frag} {H : Hp} {σ : St} {us : List (Key × V)} (S : SOk K B r H σ) (hG : r[iG]? = some (.gs gl)) (hl : H l = none) (iv : ItK K (hid B r H) us kvs) : SOk K B (r.set iG (.gs (gl ++ [(l, Nd.dc kvs)]))) (upd H l (.dK us)) σ := by
  obtain ⟨G, nd⟩ := S.ghosts hG
  have nl : l ∉ gown gl := fun z => by obtain ⟨u, eu, nt⟩ := GOk.there G z; rw [hl] at eu; cases eu
  have hs : gown (gl ++ [(l, Nd.dc kvs)]) = gown gl ++ [l] := gown_app _ _
  refine S.gset hG (fun a o ea ha => .inl ((upd_ne fun z => by rw [z, hl] at ea; cases ea).trans ea)) ?_ (fun q hq => ?_) fun hh => ?_
  · rw [hs]
    exact List.nodup_append.mpr ⟨nd, by simp, fun x hx y hy e => nl (by rw [← List.mem_singleton.mp hy, ← e]; exact hx)⟩
  · rw [hs] at hq
    rcases List.mem_append.mp hq with z | z
    · exact .inl z
    · exact .inr (by rw [List.mem_singleton.mp z]; exact hl)
  · exact GOk.app (GOk.mono hh (fun q hq => upd_ne fun z => nl (z ▸ hq)) G) ⟨⟨us, upd_same, iv.mono hh⟩, trivial⟩
def DcP (K : PySem.W.Frag) (B : Bx) (r : List Sl) (ix : Nat) (σ : St) (H1 : Hp) (Dl : Addr) (ol : List (Key × It)) (H' : Hp) : Prop :=
  Same H1 H' ∧ SOk K ⟨hide H' (own r), Dl :: B.ps, B.ts, B.gr⟩ r H' (σ.set ix none) ∧ Dl ∉ gown B.gr ∧ ∃ acc, H' Dl = some (.dK acc) ∧ ItK K (hide H' (Dl :: (own r ++ B.ps))) acc ol
theorem DcP.see {K : PySem.W.Frag} {ix : Nat} {σ : St} {H1 H' : Hp} {Dl : Addr} {ol : List (Key × It)} (hD : H1 Dl = none) (p : DcP K B r ix σ H1 Dl ol H') : Same (hid B r H1) (hide H' (own r ++ Dl :: B.ps)) := fun b u eb => by
  have eb : hide H1 (own r ++ B.ps) b = some u := eb
  by_cases hb : b ∈ own r ++ B.ps
  · rw [hide_in hb] at eb; cases eb
  · rw [hide_out hb] at eb
    have nb : b ≠ Dl := ne_of_none eb hD
    rw [hide_out fun z => (List.mem_append.mp z).elim (fun y => hb (List.mem_append_left _ y)) fun y => (List.mem_cons.mp y).elim nb fun y => hb (List.mem_append_right _ y)]
    exact p.1 _ _ eb
theorem dc_turn {ix : Nat} {kx vx : Expr} {scope : Scope} {σ : St} {H1 H' : Hp} {Dl : Addr} {ol : List (Key × It)} {n : Nat} {kb : Bool} {ky : Key} {t : It} {v : V} {tt : TT} (h0 : r[ix]? = some .no) (hD : H1 Dl = none) (hn : ol.length < 100000)
    (hk : kb = true → ∀ s H0 C cl fp H' q', EV (Blk X scope s H0 cl C fp) ⟨H', q', B.ts, B.gr⟩ kx (r.set ix (.im (kD ky))) (kD ky))
    (he : kb = true → ∀ s H0 C cl fp H' q', EIt (Blk X scope s H0 cl C fp) ⟨H', q', B.ts, B.gr⟩ vx (r.set ix (.im (kD ky))) t)
    (ht : ∀ H' q' H σ, SOk X.K ⟨H', q', B.ts, B.gr⟩ (r.set ix (.im (kD ky))) H σ → ∀ Q : Bool → Hp → Prop, (∀ H', Same H H' → Q kb H') → tt σ H Q)
    (p : DcP X.K B r ix σ H1 Dl ol H') (hv : Rp X.K (hide H' (own r ++ Dl :: B.ps)) v (kD ky)) :
    gName ix v (wipe σ [ix]) H' fun σ2 H2 => wipe σ2 [ix] = wipe σ [ix] ∧ tt σ2 H2 fun b H3 =>
      if b = true then (fun σ H Q => ∀ s H0 C cl fp, wE (Blk X scope s H0 cl C fp) kx σ H Q : TE) σ2 H3 fun y H4 => (fun σ H Q => ∀ s H0 C cl fp, wE (Blk X scope s H0 cl C fp) vx σ H Q : TE) σ2 H4 fun z H5 => ∃ kvs k, y = kV k ∧ H5 Dl = some (.dK kvs) ∧ kvs.length < sizeLine ∧ DcP X.K B r ix σ H1 Dl (if kb = true then putI2 ol ky t else ol) (upd H5 Dl (.dK (putK kvs k z))) else DcP X.K B r ix σ H1 Dl (if kb = true then putI2 ol ky t else ol) H3 := by
  obtain ⟨p1, S, pg, acc, p2, p3⟩ := p
  show (((σ.set ix none).set ix (some v)).set ix none = σ.set ix none) ∧ tt ((σ.set ix none).set ix (some v)) H' _
  refine ⟨by rw [List.set_set, List.set_set], ?_⟩
  have S2 : SOk X.K ⟨hide H' (own r), Dl :: B.ps, B.ts, B.gr⟩ (r.set ix (.im (kD ky))) H' ((σ.set ix none).set ix (some v)) := S.im hv
  refine ht _ _ H' _ S2 _ fun H3 s3 => ?_
  have S3 := S2.mono s3
  have S3' := S.mono s3
  have p2' : H3 Dl = some (.dK acc) := s3.k p2
  have p3' := p3.mono (hide_mono (ps := Dl :: (own r ++ B.ps)) s3)
  cases kb with
  | false =>
    rw [if_neg Bool.false_ne_true, if_neg Bool.false_ne_true]
    exact ⟨p1.trans s3, S3'.rebase, pg, acc, p2', p3'⟩
  | true =>
    rw [if_pos rfl, if_pos rfl]
    intro s H0 C cl fp
    obtain ⟨t1, pt1, kt1⟩ := hk rfl s H0 C cl fp (hide H' (own r)) (Dl :: B.ps)
    refine ⟨t1, pt1, kt1 H3 _ S3 _ fun y H4 s4 ry => ?_⟩
    intro s' H0' C' cl' fp'
    obtain ⟨t2, pt2, kt2⟩ := he rfl s' H0' C' cl' fp' (hide H' (own r)) (Dl :: B.ps)
    refine ⟨t2, pt2, kt2 H4 _ (S3.mono s4) _ fun z H5 s5 rz => ?_⟩
    have p2'' : H5 Dl = some (.dK acc) := s5.k (s4.k p2')
    have hln := p3'.len
    refine ⟨acc, ky, ry.key, p2'', by rw [hln]; exact Nat.lt_of_lt_of_le hn (by decide : 100000 ≤ sizeLine), ?_, ?_, pg, putK acc ky z, upd_same, ?_⟩
    · intro b u eb
      rw [upd_ne (ne_of_none eb hD)]
      exact (((p1.trans s3).trans s4).trans s5) b u eb
    · exact ((S3'.mono s4).mono s5).redock List.mem_cons_self p2'' trivial pg
    · have eo : own (r.set ix (.im (kD ky))) = own r := own_set_eq (s := .no) (s' := .im (kD ky)) rfl h0
      have rz : ItOk X.K (hide H5 (own (r.set ix (.im (kD ky))) ++ Dl :: B.ps)) z t := rz
      rw [eo] at rz
      exact (((p3'.mono (hide_mono s4)).mono (hide_mono s5)).putK (rz.mono hid_eq)).mono (hide_upd List.mem_cons_self)
/-- {k: v for k in d if ..} -/
theorem eoDcK (ix iG m : Nat) {pb : Key × It → Bool} {fi : Key × It → It} {kx vx : Expr} {ifs : List Expr} {px : Pos} {scope : Scope} (g : Go X W k) (hG : r[iG]? = some (.gs gl)) (hj : gl[m]? = some (l, Nd.dc kvs)) (ho : ∀ H0, ER X (B.lk H0 l kvs) a (r.set iG (.gs (gl.eraseIdx m))) l) (hz : kvs.length < 100000)
    (ht : LTQ X (B.lk (fun _ => none) l kvs) scope ifs (r.set iG (.gs (gl.eraseIdx m))) ix kvs (fun u => kD u.1) pb)
    (hk : ∀ s H0 C cl fp H' q' u, u ∈ kvs → pb u = true → EV (Blk X scope s H0 cl C fp) ⟨H', q', B.ts, (l, .fz kvs) :: B.gr⟩ kx ((r.set iG (.gs (gl.eraseIdx m))).set ix (.im (kD u.1))) (kD u.1))
    (he : ∀ s H0 C cl fp H' q' u, u ∈ kvs → pb u = true → EIt (Blk X scope s H0 cl C fp) ⟨H', q', B.ts, (l, .fz kvs) :: B.gr⟩ vx ((r.set iG (.gs (gl.eraseIdx m))).set ix (.im (kD u.1))) (fi u)) (h0 : (r.set iG (.gs (gl.eraseIdx m)))[ix]? = some .no := by rfl) (ok : BlkOk X.N X.env.scope scope [(x, ix)] := by exact blkOk_by (by rfl)) (hi : X.N[ix]? = some x := by rfl)
    (hx : Loc (compEnvC scope [] 0 X.env).scope x := by first | exact Or.inl rfl | exact Or.inr rfl) (hf : (scope.names.lookup x == some .cell) = true ∨ (compEnvC scope [] 0 X.env).scope.names.lookup x = some .local := by first | exact Or.inr rfl | exact Or.inl rfl)
    (hs : ∀ v, foldedSetIterable a X.env v = pure v := by intro _; rfl) :
    EOb X B W iG (.DictComp kx vx [⟨.Name x px, a, ifs, 0⟩] scope pos) r (fun s gl' => ∃ l2, s = .rf l2 ∧ gl' = gl ++ [(l2, Nd.dc (dcO pb fi kvs kvs.length))]) (fun _ _ => False) := by
  obtain ⟨tt, pt, kt⟩ := ht
  refine ⟨_, pe_lock (pe_dc (own := [(x, ix)]) (tk := fun σ H Q => ∀ s H0 C cl fp, wE (Blk X scope s H0 cl C fp) kx σ H Q) (tv := fun σ H Q => ∀ s H0 C cl fp, wE (Blk X scope s H0 cl C fp) vx σ H Q) g.calm g.nd (pi_keys (wE_ok (e := a))) ok (fun s H0 C cl fp => pg_name (i := ix) g.nd hi hx hf) pt (fun s H0 C cl fp => ⟨fun pins s' σ H Q I z => wE_ok.run pins s' σ H Q I (z s H0 C cl fp)⟩) (fun s H0 C cl fp => ⟨fun pins s' σ H Q I z => wE_ok.run pins s' σ H Q I (z s H0 C cl fp)⟩) hs), fun H σ S Q q _ => ?_⟩
  obtain ⟨us, e1, ik, po, hl⟩ := S.lockG hG hj
  obtain ⟨nl, nd3⟩ := List.nodup_cons.mp (po.nodup_iff.mp S.nd)
  have mem : ∀ z, z ∈ own r ↔ z = l ∨ z ∈ own (r.set iG (.gs (gl.eraseIdx m))) := fun z => by rw [po.mem_iff, List.mem_cons]
  refine ⟨l, .dK us, e1, trivial, fun od => ?_⟩
  have S1 := hl od
  obtain ⟨te, pe, ke⟩ := ho (hide (upd H l (.frz od (.dK us))) (own (r.set iG (.gs (gl.eraseIdx m)))))
  refine ⟨te, pe, ke _ σ S1 _ fun H2 s2 => ⟨l, od, rfl, .inl ⟨us, s2.k upd_same trivial, fun Dl hD => ?_⟩⟩⟩
  have S2 := S1.mono s2
  have e2 : H2 l = some (.frz od (.dK us)) := s2.k upd_same trivial
  have nDl : Dl ≠ l := fun z => by rw [z, e2] at hD; cases hD
  have hlen := ik.len
  refine dc_keysK (g := gName ix) (tt := tt) (tk := fun σ H Q => ∀ s H0 C cl fp, wE (Blk X scope s H0 cl C fp) kx σ H Q) (tv := fun σ H Q => ∀ s H0 C cl fp, wE (Blk X scope s H0 cl C fp) vx σ H Q) (vs := [ix]) (σ := σ) (a := l) (ob := od) (us := us) (fun i H' => DcP X.K (B.lk (hide (upd H l (.frz od (.dK us))) (own (r.set iG (.gs (gl.eraseIdx m))))) l kvs) (r.set iG (.gs (gl.eraseIdx m))) ix σ H2 Dl (dcO pb fi kvs i) H') ?_ (fun i H' _ p => p.1.k e2 trivial) (fun i ky v H' hv p => ?_) fun H' p => ?_
  · have S' := S2.setNo (i := ix)
    rw [set_self h0] at S'
    exact ⟨same_new hD, S'.dock hD, fun z => S2.dom Dl (List.mem_append_right _ (S2.gp Dl z)) hD, [], upd_same, .nil⟩
  · obtain ⟨t, ht1, _⟩ := ik.at hv
    have hi' : i < kvs.length := (List.getElem?_eq_some_iff.mp ht1).1
    have hm : (ky, t) ∈ kvs := List.mem_of_getElem? ht1
    have hol := dcO_len pb fi kvs i
    have key := dc_turn (X := X) (B := B.lk (hide (upd H l (.frz od (.dK us))) (own (r.set iG (.gs (gl.eraseIdx m))))) l kvs) (n := 0) (kx := kx) (vx := vx) (scope := scope) (kb := pb (ky, t)) (ky := ky) (t := fi (ky, t)) (v := kV ky) (tt := tt) h0 hD (by omega) (fun hb s H0 C cl fp H' q' => hk s H0 C cl fp H' q' (ky, t) hm hb) (fun hb s H0 C cl fp H' q' => he s H0 C cl fp H' q' (ky, t) hm hb) (fun H' q' H σ S Q q => kt H' q' (ky, t) H σ hm S Q q) p (rp_key ky)
    have e9 : (if pb (ky, t) = true then putI2 (dcO pb fi kvs i) ky (fi (ky, t)) else dcO pb fi kvs i) = dcO pb fi kvs (i + 1) := by
      by_cases hb : pb (ky, t) = true
      · rw [if_pos hb, dcO_y ht1 hb]
      · rw [if_neg hb, dcO_n ht1 (by simpa using hb)]
    rw [e9] at key
    exact key
  · have e3 : H' l = some (.frz od (.dK us)) := p.1.k e2 trivial
    refine ⟨e3, ?_⟩
    obtain ⟨p1, _, _, acc, p2, p3⟩ := p
    rw [hlen] at p3
    -- the heap behind it, without the new dict
    have hHD : H Dl = none := by
      cases eD : H Dl with
      | none => rfl
      | some o =>
        have : Ext1 o (H2 Dl) := s2 Dl o (by rw [upd_ne nDl]; exact eD)
        rw [hD] at this
        exact this.no.elim
    have sx : Same H (fun b => if b = Dl then none else (upd H' l (.dK us)) b) := fun b ob eb => by
      have nb : b ≠ Dl := ne_of_none eb hHD
      show Ext1 ob (if b = Dl then none else _)
      rw [if_neg nb]
      by_cases hc : b = l
      · subst hc
        rw [e1] at eb; cases eb
        exact .inl upd_same
      · rw [upd_ne hc]
        exact (s2.trans p1) b ob (by rw [upd_ne hc]; exact eb)
    have ex : upd (fun b => if b = Dl then none else (upd H' l (.dK us)) b) Dl (.dK acc) = upd H' l (.dK us) := by
      funext b
      by_cases hb : b = Dl
      · subst hb; rw [upd_same, upd_ne nDl, p2]
      · rw [upd_ne hb]; exact if_neg hb
    have iv : ItK X.K (hid B r (fun b => if b = Dl then none else (upd H' l (.dK us)) b)) acc (dcO pb fi kvs kvs.length) := p3.mono fun b ob eb => by
      have eb : hide H' (Dl :: (own (r.set iG (.gs (gl.eraseIdx m))) ++ l :: B.ps)) b = some ob := eb
      by_cases hb : b = Dl
      · subst hb; rw [hide_in List.mem_cons_self] at eb; cases eb
      · by_cases hc : b ∈ own (r.set iG (.gs (gl.eraseIdx m))) ++ l :: B.ps
        · rw [hide_in (List.mem_cons_of_mem _ hc)] at eb; cases eb
        · rw [hide_out (fun z => (List.mem_cons.mp z).elim hb hc)] at eb
          have ncl : b ≠ l := fun z => hc (List.mem_append_right _ (z ▸ List.mem_cons_self))
          show Ext1 ob (hide _ (own r ++ B.ps) b)
          rw [hide_out fun z => ?_]
          · refine .inl ?_
            show (if b = Dl then none else _) = _
            rw [if_neg hb, upd_ne ncl]; exact eb
          · rcases List.mem_append.mp z with y | y
            · rcases (mem b).mp y with y | y
              · exact ncl y
              · exact hc (List.mem_append_left _ y)
            · exact hc (List.mem_append_right _ (List.mem_cons_of_mem _ y))
    have S3 := (S.mono sx).gaddK (iG := iG) (l := Dl) hG (if_pos rfl) iv
    rw [ex] at S3
    exact q (.rf Dl) (.ref Dl) _ _ S3 rfl ⟨Dl, rfl, rfl⟩
end
end Tp

/-! a method of an object that a call makes -/
namespace Tp
open PySem L2
section
variable {X : Cx} {B : Bx} {W : WX} {P : Po} {r q : List Sl} {e a b o f tg c : Expr} {es rest : List Expr} {ds : List D} {pos pos' apos : Pos} {k kk n iG : Nat} {gl : List (Addr × Nd)} {m : Str} {C : Addr} {cm : CtM}
def wAs (X : Cx) (es : List Expr) : TA := fun σ H Q => ∃ t, PA X es t ∧ t σ H Q
theorem wAs_ok : PA X es (wAs X es) := ⟨fun pos pins s σ H Q I ⟨_, p, z⟩ => p.run pos pins s σ H Q I z⟩
theorem eoMethE (iG : Nat) {Po1 Po3 : Rs → List (Addr × Nd) → Prop} {pl : Sem Bool} (g : Go X W kk) (ho : EOb X B W iG o r Po1 fun _ _ => False) (cl : Cls X.K C) (M : MthM X.prog X.w B.ts X.K X.mg X.base C m k cm) (hk : k ≤ kk) (hG : r[iG]? = some (.gs gl))
    (h : ∀ s gl', Po1 s gl' → ∃ p dx fs its g1 g2 gr Po2, s = .rf p ∧ (p, Nd.ob C dx fs) ∈ gl' ∧ fs.lookup m = none ∧ gl'.Perm (g1 ++ g2) ∧ EAi X B (e :: es) (r.set iG (.gs gl')) its ∧ (∀ x ∈ gr, x ∈ g2 ∨ x ∈ B.gr ∨ InO (r.set iG (.gs gl')) x) ∧ cm (.rf p :: its) gr g1 Po2 (fun _ _ => False) ∧ ∀ s g', Po2 s g' → Po3 s (g' ++ g2))
    (hst : starEach (e :: es) X.env = (false, eval e X.env) :: starEach es X.env := by rfl) (hpl : (backTo pos (starEach es X.env)).any (·.1) = false := by rfl)
    (ht : eval (.Call (.Attribute o m apos) (e :: es) [] pos) X.env = (do
      let ov ← eval o X.env
      standAt apos.atName
      let (f, first) ← holding [ov] (getMethod ov m pl)
      callWith pos f first (backTo pos (starEach (e :: es) X.env)) (backToKw pos (keywordEach [] X.env))) := by rfl) : EOb X B W iG (.Call (.Attribute o m apos) (e :: es) [] pos) r Po3 (fun _ _ => False) := by
  obtain ⟨f, fd, ps, F, hm, hb⟩ := M
  obtain ⟨te, pp, kt⟩ := ho
  refine ⟨_, pe_methX pp cl hm F (g.hr.mono hk) hb (fun σ => passAt g.tk σ) (wAs_ok (es := e :: es)) hst hpl ht, fun H σ S Q q qx => kt H σ S _ (fun s v gl' H1 S1 ro hP => ?_) fun _ _ _ _ z => z.elim⟩
  obtain ⟨p, dx, fs, its, g1, g2, gr, Po2, rfl, hmem, hl, hp, ⟨ta, pa, ka⟩, hr, hc, h1⟩ := h s gl' hP
  cases ro
  have hG2 := get_set (s' := .gs gl') hG
  have hI : InG B (r.set iG (.gs gl')) (p, .ob C dx fs) := .inr (.inl ⟨iG, gl', hG2, hmem⟩)
  obtain ⟨vs, e1, e2, z⟩ := hI.ok S1
  refine ⟨p, dx, vs, rfl, e1, z.none hl, ta, pa, ka H1 σ S1 _ fun ws H2 s2 y => ?_⟩
  exact spM_own (S1.mono s2) hG2 hp hr (.cons (i := .rf p) rfl y) hc (fun s v g' H' S' ro ho => q s v _ H' (by rw [set_set] at S'; exact S') (by rw [set_set] at ro; exact ro) (h1 s g' ho)) fun _ _ _ _ hx => hx.elim
end
end Tp

/-! several parts that turn ghosts, one behind the other -/
namespace Tp
open PySem L2
section
variable {X : Cx} {B : Bx} {W : WX} {P : Po} {r q : List Sl} {e a b o f tg c : Expr} {es rest : List Expr} {d d1 d2 : D} {ds : List D} {pos pos' apos : Pos} {k kk n iG : Nat} {gl g1 g2 : List (Addr × Nd)} {m : Str} {K : PySem.W.Frag} {H H' : Hp} {σ σ' : St}
/-- data that was read stays data -/
theorem Rp.past {v : V} (S' : SOk K (B.at r H) q H' σ') (h : Rp K (hid B r H) v d) : Rp K (hid B q H') v d := h.mono fun b ob eo => by
  have eo : hide H (own r ++ B.ps) b = some ob := eo
  by_cases hb : b ∈ own r ++ B.ps
  · rw [hide_in hb] at eo; cases eo
  · rw [hide_out hb] at eo
    have n1 : b ∉ own r := fun z => hb (List.mem_append_left _ z)
    have n2 : b ∉ B.ps := fun z => hb (List.mem_append_right _ z)
    have e0 : (B.at r H).H0 b = some ob := by show hide H (own r) b = _; rw [hide_out n1]; exact eo
    show Ext1 ob (hide H' (own q ++ B.ps) b)
    rw [hide_out fun z => (List.mem_append.mp z).elim (fun y => by have := S'.new b y; rw [e0] at this; cases this) n2]
    exact S'.ex b ob e0
def EAg (X : Cx) (B : Bx) (iG : Nat) (es : List Expr) (r : List Sl) (ds : List D) (g2 : List (Addr × Nd)) : Prop :=
  ∃ ta, PA X es ta ∧ ∀ H σ, SOk X.K B r H σ → ∀ Q : List V → Hp → Prop, (∀ vs H', SOk X.K B (r.set iG (.gs g2)) H' σ → RpA X.K (hid B (r.set iG (.gs g2)) H') vs ds → Q vs H') → ta σ H Q
theorem eagP (h : EA X B es r ds) (hG : r[iG]? = some (.gs gl)) : EAg X B iG es r ds gl := by
  obtain ⟨t, p, q⟩ := h
  refine ⟨t, p, fun H σ S Q z => q H σ S Q fun vs H1 s1 y => ?_⟩
  have e : r.set iG (.gs gl) = r := set_self hG
  exact z vs H1 (by rw [e]; exact S.mono s1) (by rw [e]; exact y)
theorem eagD (he : EV X B e r d) (ht : ∀ H1, EAg X ⟨H1, B.ps, B.ts, B.gr⟩ iG es r ds g2) (hst : NSt X e := by exact fun _ => rfl) : EAg X B iG (e :: es) r (d :: ds) g2 := by
  obtain ⟨te, pe, ke⟩ := he
  refine ⟨_, pa_cons pe (wAs_ok (es := es)) (hst _), fun H σ S Q z => ke H σ S _ fun v H1 s1 y => ?_⟩
  have S1 := S.mono s1
  obtain ⟨t, p, kt⟩ := ht (hide H1 (own r))
  refine ⟨t, p, kt H1 σ S1.rebase _ fun vs H2 S2 y2 => ?_⟩
  exact z _ H2 (S1.back S2) (.cons (Rp.past S2 y) y2)
theorem eagC (he : EOb X B W iG e r (fun s gl' => s = .da d ∧ gl' = g1) fun _ _ => False) (ht : ∀ H1, EAg X ⟨H1, B.ps, B.ts, B.gr⟩ iG es (r.set iG (.gs g1)) ds g2) (hst : NSt X e := by exact fun _ => rfl) : EAg X B iG (e :: es) r (d :: ds) g2 := by
  obtain ⟨te, pe, ke⟩ := he
  refine ⟨_, pa_cons pe (wAs_ok (es := es)) (hst _), fun H σ S Q z => ke H σ S _ (fun s v gl' H1 S1 ro hP => ?_) fun _ _ _ _ hx => hx.elim⟩
  obtain ⟨rfl, rfl⟩ := hP
  have ro : Rp X.K (hid B (r.set iG (.gs gl')) H1) v d := ro
  obtain ⟨t, p, kt⟩ := ht (hide H1 (own (r.set iG (.gs gl'))))
  refine ⟨t, p, kt H1 σ S1.rebase _ fun vs H2 S2 y2 => ?_⟩
  have S3 := S1.back S2
  have y := Rp.past S2 ro
  rw [set_set] at S3 y2 y
  exact z _ H2 S3 (.cons y y2)
/-- [e, ..] with turning parts: data -/
theorem eoLstG (h : EAg X B iG es r ds g2) (hl : ds.length ≤ 100000 := by first | exact Nat.le_of_ble_eq_true rfl | decide | simp) : EOb X B W iG (.List es pos) r (fun s gl' => s = .da (.list ds) ∧ gl' = g2) (fun _ _ => False) := by
  obtain ⟨t, p, q⟩ := h
  refine ⟨_, pe_lst p, fun H σ S Q z _ => q H σ S _ fun vs H1 S1 y => ⟨by rw [y.len]; exact line_of hl, fun l hl => ?_⟩⟩
  exact z (.da (.list ds)) (.ref l) g2 _ (S1.mono (same_new hl)) (.lst (SqL.of (hide_new hl S1.dom)) (y.mono (hide_mono (same_new hl)))) ⟨rfl, rfl⟩
theorem ETg.wk {Pk Pk2 : Bool → List (Addr × Nd) → Prop} (h : ETg X B W iG c r Pk) (h2 : ∀ z gl', Pk z gl' → Pk2 z gl') : ETg X B W iG c r Pk2 := by
  obtain ⟨t, p, q⟩ := h
  exact ⟨t, p, fun H σ S Q z => q H σ S Q fun k gl' H' S' hk => z k gl' H' S' (h2 k gl' hk)⟩
/-- a comparison of two parts that both turn ghosts -/
theorem etgCmp2 {op : CmpOp} {z : Bool} (ha : EOb X B W iG a r (fun s gl' => s = .da d1 ∧ gl' = g1) fun _ _ => False) (hb : ∀ H1, EOb X ⟨H1, B.ps, B.ts, B.gr⟩ W iG b (r.set iG (.gs g1)) (fun s gl' => s = .da d2 ∧ gl' = g2) fun _ _ => False) (hc : CV X op d1 d2 z) (hm : behindInMarks op b = false := by first | exact nomark _ | rfl) : ETg X B W iG (.Compare a [op] [b] pos) r (fun y gl' => y = z ∧ gl' = g2) := by
  obtain ⟨ta, pa, ka⟩ := ha
  obtain ⟨rr, po, ko⟩ := hc
  refine ⟨_, pt_cmpR wR_ok pa (wE_ok (e := b)) hm, fun H σ S Q q => ka H σ S _ (fun s v gl' H' S' ro ho => ?_) fun _ _ _ _ z => z.elim⟩
  obtain ⟨rfl, rfl⟩ := ho
  have ro : Rp X.K (hid B (r.set iG (.gs gl')) H') v d1 := ro
  obtain ⟨tb, pb, kb⟩ := hb (hide H' (own (r.set iG (.gs gl'))))
  refine ⟨tb, pb, kb H' σ S'.rebase _ (fun s2 v2 gl2 H2 S2 ro2 ho2 => ?_) fun _ _ _ _ z => z.elim⟩
  obtain ⟨rfl, rfl⟩ := ho2
  have S3 := S'.back S2
  have y := Rp.past S2 ro
  have y2 : Rp X.K (hid B ((r.set iG (.gs gl')).set iG (.gs gl2)) H2) v2 d2 := ro2
  rw [set_set] at S3 y y2
  exact ⟨rr, po, ko H2 v v2 (y.mono hide_same) (y2.mono hide_same) _ ⟨z, rfl, q z gl2 H2 S3 ⟨rfl, rfl⟩⟩⟩
end
end Tp

/-! a def called with nothing -/
namespace Tp
open PySem L2
section
variable {X : Cx} {CX : CXT} {k n : Nat} {pos p p1 : Pos} {x : Str} {f : Addr} {fd : FuncData} {ps ks : List Str} {sp : Sp} {E : St → XK} {g : List Value → List Value → List Value} {gV : List V → List V → List V}
theorem pe_callNS0 (F : FnOk X.prog X.w X.K X.mg X.base CX k f fd ps sp) (hr : Room k X.A) (hg : Gl X x) (hm : X.mg x = some (.ref f)) (hk : PySem.W.keepIn X.K (.ref f) = true) (hb : KBn X.K fd ps 0 [] g gV) (hx : ∀ σ, PassesAt CX X σ (E σ)) (hdb : (x == ("__debug__" : Str)) = false := by decide) :
    PE X (.Call (.Name x p) [] [] pos) (fun σ H Q => sp (gV [] []) H Q (E σ)) := by
  refine ⟨fun pins s σ H Q I h => ?_⟩
  refine wpAny_Call_Name_kw (ld_glob I hg hm ?_ hdb)
  exact PySem.W.callWith_K0 I.kIn hk (run_fnNS (us := []) (ws := []) F hr hb (hx σ) I .nil .nil rfl rfl h)
end
section
variable {X : Cx} {B : Bx} {W : WX} {r : List Sl} {pos p1 : Pos} {k kk iG : Nat} {x : Str} {gl g1 g2 gr : List (Addr × Nd)} {c : CtM} {Po2 Po3 : Rs → List (Addr × Nd) → Prop} {Ex2 Ex3 : Addr → List (Addr × Nd) → Prop} {gI : List It → List It → List It}
theorem eoCallM0 (iG : Nat) (g : Go X W kk) (M : CalM X.prog X.w B.ts X.K X.mg X.base x k c 0 [] gI) (hk : k ≤ kk) (hG : r[iG]? = some (.gs gl)) (hp : gl.Perm (g1 ++ g2)) (hr : ∀ x ∈ gr, x ∈ g2 ∨ x ∈ B.gr ∨ InO r x) (hc : c (gI [] []) gr g1 Po2 Ex2)
    (h1 : ∀ s g', Po2 s g' → Po3 s (g' ++ g2)) (h2 : ∀ C g', Ex2 C g' → Ex3 C (g' ++ g2)) (hg : Gl X x := by rfl) (hdb : (x == ("__debug__" : Str)) = false := by decide) : EOb X B W iG (.Call (.Name x p1) [] [] pos) r Po3 Ex3 := by
  obtain ⟨f, fd, ps, gg, gV, F, hm, hkp, hb, hI⟩ := M
  refine ⟨_, pe_callNS0 F (g.hr.mono hk) hg hm hkp hb (fun σ => passAt g.tk σ) hdb, fun H σ S Q q qx => ?_⟩
  exact spM_own S hG hp hr (hI _ _ _ _ _ rfl rfl .nil .nil) hc (fun s v g' H' S' ro ho => q s v _ H' S' ro (h1 s g' ho)) fun C g' H' S' hx => qx C _ H' S' (h2 C g' hx)
end
end Tp

/-! parts of an object that a call makes: they are read and the object is forgotten; calls with such arguments -/
namespace Tp
open PySem L2
section
variable {X : Cx} {B : Bx} {W : WX} {P : Po} {r q : List Sl} {e a b o f tg c : Expr} {es rest : List Expr} {d d1 d2 dx dy dz : D} {ds : List D} {its : List It} {pos pos' apos : Pos} {k kk n iG : Nat} {gl g1 g2 gl2 : List (Addr × Nd)} {m fd : Str} {H H' : Hp} {σ σ' : St} {Po1 Po2 : Rs → List (Addr × Nd) → Prop}
theorem own_gsub (hl : iG < r.length) (hs : gl2.Sublist gl) (p : Addr) (h : p ∈ own (r.set iG (.gs gl2))) : p ∈ own (r.set iG (.gs gl)) := by
  rw [(own_perm_set (s := .gs gl2) hl).mem_iff, List.mem_append] at h
  rw [(own_perm_set (s := .gs gl) hl).mem_iff, List.mem_append]
  exact h.elim (fun z => .inl ((gown_subl hs).subset z)) .inr
theorem SOk.gsub {K : PySem.W.Frag} (S : SOk K B r H σ) (hG : r[iG]? = some (.gs gl)) (hs : gl2.Sublist gl) : SOk K B (r.set iG (.gs gl2)) H σ := by
  obtain ⟨G, nd⟩ := S.ghosts hG
  exact S.gset hG (fun _ _ e _ => .inl e) (List.Sublist.nodup (gown_subl hs) nd) (fun p hp => .inl ((gown_subl hs).subset hp)) fun hh => GOk.mono hh (fun _ _ => rfl) (GOk.all fun x hx => G.memb (hs.subset hx))
/-- what a call made is needed no more -/
theorem eoSub (he : EOb X B W iG e r Po1 fun _ _ => False) (hG : r[iG]? = some (.gs gl)) (h : ∀ s gl', Po1 s gl' → ∃ gl2, gl2.Sublist gl' ∧ Po2 s gl2) : EOb X B W iG e r Po2 fun _ _ => False := by
  obtain ⟨t, p, q⟩ := he
  have hl : iG < r.length := (List.getElem?_eq_some_iff.mp hG).1
  refine ⟨t, p, fun H σ S Q z _ => q H σ S Q (fun s v gl' H' S' ro ho => ?_) fun _ _ _ _ y => y.elim⟩
  obtain ⟨gl2, hp, ho2⟩ := h s gl' ho
  have hG2 : (r.set iG (.gs gl'))[iG]? = some (.gs gl') := get_set (s' := .gs gl') hG
  have S2 := S'.gsub hG2 hp
  rw [set_set] at S2
  refine z s v gl2 H' S2 ?_ ho2
  cases s with
  | da d => exact Rp.mono (hide_sub fun y hy => (List.mem_append.mp hy).elim (fun w => List.mem_append_left _ (own_gsub hl hp y w)) fun w => List.mem_append_right _ w) ro
  | rf a => exact ro
  | nl _ => exact ro
  | nd _ => exact ro
/-- a field of an object that a call makes; the object is forgotten -/
theorem eoFldE (he : EOb X B W iG e r Po1 fun _ _ => False) (hG : r[iG]? = some (.gs gl)) (h : ∀ s gl', Po1 s gl' → ∃ p C dx fs, s = .rf p ∧ (p, Nd.ob C dx fs) ∈ gl' ∧ FdAt X.K C fs fd (.da d) ∧ gl.Sublist gl')
    (hb : attributeBase e fd X.env (eval e X.env) = eval e X.env := by rfl) : EOb X B W iG (.Attribute e fd pos) r (fun s gl' => s = .da d ∧ gl' = gl) fun _ _ => False := by
  refine eoSub (Po1 := fun s gl' => s = .da d ∧ gl.Sublist gl') (?_ : EOb X B W iG (.Attribute e fd pos) r _ _) hG fun s gl' ho => ⟨gl, ho.2, ho.1, rfl⟩
  obtain ⟨te, pp, ke⟩ := he
  refine ⟨_, pe_fld pp hb, fun H σ S Q z _ => ke H σ S _ (fun s v gl' H1 S1 ro hP => ?_) fun _ _ _ _ y => y.elim⟩
  obtain ⟨p, C, dx, fs, rfl, hm, hf, hs⟩ := h s gl' hP
  cases ro
  have hI : InG B (r.set iG (.gs gl')) (p, .ob C dx fs) := .inr (.inl ⟨iG, gl', get_set (s' := .gs gl') hG, hm⟩)
  obtain ⟨vs, e1, e2, y⟩ := hI.ok S1
  obtain ⟨v, l1, rv⟩ := y.lookup hf.look
  exact ⟨p, C, dx, vs, v, rfl, e1, hf.cl, hf.na, l1, z (.da d) v gl' H1 S1 rv ⟨rfl, hs⟩⟩
/-- x op y, where x comes from such a part -/
theorem eoBinL {op : Operator} (ha : EOb X B W iG a r (fun s gl' => s = .da dx ∧ gl' = gl) fun _ _ => False) (hG : r[iG]? = some (.gs gl)) (hb : EV X B b r dy) (ho : OV X op dx dy dz) : EOb X B W iG (.BinOp a op b pos) r (fun s gl' => s = .da dz ∧ gl' = gl) fun _ _ => False := by
  obtain ⟨ta, pa, ka⟩ := ha
  obtain ⟨tb, pb, kb⟩ := hb
  obtain ⟨rr, po, ko⟩ := ho
  have e0 : r.set iG (.gs gl) = r := set_self hG
  refine ⟨_, pe_op po pa pb, fun H σ S Q q _ => ka H σ S _ (fun s v gl' H1 S1 ro hP => ?_) fun _ _ _ _ y => y.elim⟩
  obtain ⟨rfl, rfl⟩ := hP
  rw [e0] at S1 ro
  have ro : Rp X.K (hid B r H1) v dx := ro
  refine kb H1 σ S1 _ fun y H2 s2 r2 => ?_
  refine ko _ H2 v y (S1.mono s2).dom (ro.mono (hide_mono s2)) r2 Q fun w H3 s3 r3 => ?_
  exact q (.da dz) w gl' H3 (by rw [e0]; exact (S1.mono s2).mono s3) (by rw [e0]; exact r3) ⟨rfl, rfl⟩
/-- arguments, some of which turn ghosts and give data -/
theorem eaoG (h : EAg X B iG es r ds g2) : EAo X B iG es r (fun its gl' => its = ds.map It.da ∧ gl' = g2) := by
  obtain ⟨t, p, q⟩ := h
  exact ⟨t, p, fun H σ S Q z => q H σ S Q fun vs H1 S1 y => z vs _ g2 H1 S1 (RpA.its y) ⟨rfl, rfl⟩⟩
end
end Tp

/-! the head's addresses, found with a mask instead of a list of those seen -/
namespace Tp
open PySem L2
def dd : Nat → List Addr → List Addr
  | _, [] => []
  | m, a :: l => match Nat.beq (Nat.land 1 (Nat.shiftRight m a)) 0 with
    | true => a :: dd (Nat.lor m (Nat.shiftLeft 1 a)) l
    | false => dd m l
theorem dd_bit (m a : Nat) : Nat.beq (Nat.land 1 (Nat.shiftRight m a)) 0 = !m.testBit a := by
  show Nat.beq (1 &&& (m >>> a)) 0 = !(1 &&& (m >>> a) != 0)
  rcases h : (1 &&& (m >>> a)) with _ | n <;> rfl
theorem dd_loop : ∀ (l bs : List Addr) (m : Nat), (∀ a, m.testBit a = bs.any (fun b => a == b)) → List.eraseDupsBy.loop (fun a b => a == b) l bs = bs.reverse ++ dd m l
  | [], bs, m, _ => by show bs.reverse = _; exact (List.append_nil _).symm
  | a :: l, bs, m, h => by
    unfold List.eraseDupsBy.loop dd
    rw [dd_bit, h a]
    cases e : bs.any (fun b => a == b) with
    | true => exact dd_loop l bs m h
    | false =>
      show List.eraseDupsBy.loop (fun a b => a == b) l (a :: bs) = bs.reverse ++ a :: dd (m ||| (1 <<< a)) l
      rw [dd_loop l (a :: bs) (m ||| (1 <<< a)) fun b => ?_, List.reverse_cons, List.append_assoc]
      · rfl
      · rw [Nat.testBit_or, h b, List.any_cons, Nat.one_shiftLeft, Nat.testBit_two_pow]
        by_cases z : a = b
        · subst z; simp
        · have z2 : (b == a) = false := by simp; exact fun y => z y.symm
          rw [z2, decide_eq_false z]; simp
theorem dd_eq (l : List Addr) : dd 0 l = l.eraseDups := by
  have h := dd_loop l [] 0 fun a => Nat.zero_testBit a
  exact h.symm
def growF (g : Addr → Option Obj) (as : List Addr) : List Addr := dd 0 (as ++ as.flatMap fun a => match g a with
  | some o => He.refsD o
  | none => [])
def asF (g : Addr → Option Obj) : Nat → List Addr
  | 0 => [mainGlobals]
  | n + 1 => growF g (asF g n)
theorem asF_eq (g : Addr → Option Obj) : ∀ n, asF g n = He.asD g n
  | 0 => rfl
  | n + 1 => by
    show dd 0 _ = _
    rw [dd_eq, asF_eq g n]
    rfl
def obsXF (n : Nat) (fa : List He.Fa) (fn : List He.DefD) (ts : List He.Tab) (tf : List He.Defn) (ex : PySem.W.Frag → Bool) (g : Addr → Option Obj) : He.AlX := (He.obsT fa fn ts (He.frT g (asF g n)), ex (He.frT g (asF g n)) && He.tabsB g tf (He.frT g (asF g n)))
theorem obsXF_eq {n : Nat} {fa : List He.Fa} {fn : List He.DefD} {ts : List He.Tab} {tf : List He.Defn} {ex : PySem.W.Frag → Bool} {g : Addr → Option Obj} {s : Shared} (h : ∀ a, g a = s.heap.get? a) : obsXF n fa fn ts tf ex g = (He.hookX n fa fn ts tf ex).obs s := by
  unfold obsXF
  rw [asF_eq]
  exact He.obsX_eq h
def obsPF (n : Nat) (fa : List He.Fa) (fn : List He.DefD) (ts : List He.Tab) (tf : List He.Defn) (ex : PySem.W.Frag → Bool) (fp : List He5.DefA) (g : Addr → Option Obj) : He.AlX × He.AlD := (obsXF n fa fn ts tf ex g, He5.obsA [] fp (He.frT g (asF g n)))
theorem obsPF_eq {n : Nat} {fa : List He.Fa} {fn : List He.DefD} {ts : List He.Tab} {tf : List He.Defn} {ex : PySem.W.Frag → Bool} {fp : List He5.DefA} {g : Addr → Option Obj} {s : Shared} (h : ∀ a, g a = s.heap.get? a) : obsPF n fa fn ts tf ex fp g = (hookP n fa fn ts tf ex fp).obs s := by
  unfold obsPF obsXF
  rw [asF_eq]
  exact obsP_eq h
end Tp

/-! [elt for x, y in a list of pairs if c] -/
namespace Tp
open PySem L2
section
variable {X : Cx} {B : Bx} {W : WX} {r : List Sl} {a c : Expr} {pos : Pos} {k : Nat} {x y : Str}
theorem lcW_turnF {ix jx : Nat} {elt : Expr} {scope : Scope} {σ : St} {H1 H' : Hp} {Dl : Addr} {ol : List D} {da db fd : D} {v : V} {tt : TT} {pu : Bool} (hne : ix ≠ jx) (h0 : r[ix]? = some .no) (h1 : r[jx]? = some .no) (hD : H1 Dl = none) (hn : ol.length < 100000)
    (he : pu = true → ∀ s H0 C cl fp H' q', EV (Blk X scope s H0 cl C fp) ⟨H', q', B.ts, B.gr⟩ elt ((r.set ix (.im da)).set jx (.im db)) fd)
    (ht : ∀ H' q' H σ, SOk X.K ⟨H', q', B.ts, B.gr⟩ ((r.set ix (.im da)).set jx (.im db)) H σ → ∀ Q : Bool → Hp → Prop, (∀ H', Same H H' → Q pu H') → tt σ H Q)
    (p : LcW X.K B r (wipe σ [ix, jx]) H1 Dl ol H') (hv : Rp X.K (hide H' (own r ++ Dl :: B.ps)) v (.tuple [da, db])) :
    gTup X.K 2 (gCons (gName ix) (gCons (gName jx) gNil)) v (wipe σ [ix, jx]) H' fun σ2 H2 => wipe σ2 [ix, jx] = wipe σ [ix, jx] ∧ tt σ2 H2 fun b H3 =>
      if b = true then (fun σ H Q => ∀ s H0 C cl fp, wE (Blk X scope s H0 cl C fp) elt σ H Q : TE) σ2 H3 fun y H4 => ∃ acc, H4 Dl = some (.lst acc) ∧ acc.length < sizeLine ∧ LcW X.K B r (wipe σ [ix, jx]) H1 Dl (if pu = true then ol ++ [fd] else ol) (upd H4 Dl (.lst (acc ++ [y]))) else LcW X.K B r (wipe σ [ix, jx]) H1 Dl (if pu = true then ol ++ [fd] else ol) H3 := by
  obtain ⟨p1, S, pg, acc, p2, p3⟩ := p
  cases hv with
  | tup k1 k2 =>
  cases k2 with
  | cons ra k3 =>
  cases k3 with
  | cons rb k4 =>
  cases k4
  rename_i va vb
  have S2 : SOk X.K ⟨hide H' (own r), Dl :: B.ps, B.ts, B.gr⟩ (r.set ix (.im da)) H' ((wipe σ [ix, jx]).set ix (some va)) := S.im ra
  have eo1 : own (r.set ix (.im da)) = own r := own_set_eq (s := .no) (s' := .im da) rfl h0
  have S3 : SOk X.K ⟨hide H' (own r), Dl :: B.ps, B.ts, B.gr⟩ ((r.set ix (.im da)).set jx (.im db)) H' (((wipe σ [ix, jx]).set ix (some va)).set jx (some vb)) := by
    refine S2.im ?_
    show Rp X.K (hide H' (own (r.set ix (.im da)) ++ Dl :: B.ps)) vb db
    rw [eo1]; exact rb
  have h1' : (r.set ix (.im da))[jx]? = some .no := by rw [List.getElem?_set_ne hne]; exact h1
  have eo : own ((r.set ix (.im da)).set jx (.im db)) = own r := (own_set_eq (s := .no) (s' := .im db) rfl h1').trans eo1
  refine ⟨_, _, rfl, seqT hide_same k1, rfl, va, [vb], rfl, vb, [], rfl, rfl, ?_, ?_⟩
  · show ((((((σ.set jx none).set ix none).set ix (some va)).set jx (some vb)).set jx none).set ix none) = (σ.set jx none).set ix none
    rw [List.set_set, List.set_set, set_swap _ hne, List.set_set, List.set_set]
  · refine ht _ _ H' _ S3 _ fun H3 s3 => ?_
    have S4 := S3.mono s3
    have S3' := S.mono s3
    have p2' : H3 Dl = some (.lst acc) := s3.k p2
    have p3' := p3.mono (hide_mono (ps := Dl :: (own r ++ B.ps)) s3)
    cases hb : pu with
    | false =>
      rw [if_neg Bool.false_ne_true, if_neg Bool.false_ne_true]
      exact ⟨p1.trans s3, S3'.rebase, pg, acc, p2', p3'⟩
    | true =>
      rw [if_pos rfl, if_pos rfl]
      intro s H0 C cl fp
      obtain ⟨t, pt, kt⟩ := he hb s H0 C cl fp (hide H' (own r)) (Dl :: B.ps)
      refine ⟨t, pt, kt H3 _ S4 _ fun y H4 s4 ry => ?_⟩
      have p2'' : H4 Dl = some (.lst acc) := s4.k p2'
      have hln := p3'.len
      refine ⟨acc, p2'', by rw [hln]; exact Nat.lt_of_lt_of_le hn (by decide : 100000 ≤ sizeLine), ?_, ?_, pg, acc ++ [y], upd_same, ?_⟩
      · intro b u eb
        rw [upd_ne (ne_of_none eb hD)]
        exact ((p1.trans s3).trans s4) b u eb
      · exact (S3'.mono s4).redock List.mem_cons_self p2'' trivial pg
      · refine ((p3'.mono (hide_mono s4)).app (.one ?_)).mono (hide_upd List.mem_cons_self)
        have ry : Rp X.K (hide H4 (own ((r.set ix (.im da)).set jx (.im db)) ++ Dl :: B.ps)) y fd := ry
        rw [eo] at ry
        exact ry.mono hid_eq
theorem evLcPf (ix jx : Nat) {α : Type} {L : List α} {ga gb f : α → D} {pb : α → Bool} {elt : Expr} {px py tp : Pos} {tn : Nat} {scope : Scope} (g : Go X W k) (hn' : ES X B a r false (L.map fun u => .tuple [ga u, gb u])) (hz : L.length ≤ 100000)
    (hc : ∀ s H0 C cl fp H' q' u, u ∈ L → ET (Blk X scope s H0 cl C fp) ⟨H', q', B.ts, B.gr⟩ c ((r.set ix (.im (ga u))).set jx (.im (gb u))) (pb u))
    (he : ∀ s H0 C cl fp H' q' u, u ∈ L → pb u = true → EV (Blk X scope s H0 cl C fp) ⟨H', q', B.ts, B.gr⟩ elt ((r.set ix (.im (ga u))).set jx (.im (gb u))) (f u)) (hne : ix ≠ jx := by decide) (h0 : r[ix]? = some .no := by rfl) (h1 : r[jx]? = some .no := by rfl) (ok : BlkOk X.N X.env.scope scope [(x, ix), (y, jx)] := by exact blkOk_by (by rfl)) (hi : X.N[ix]? = some x := by rfl) (hj : X.N[jx]? = some y := by rfl)
    (hx : Loc (compEnvC scope [] 0 X.env).scope x := by first | exact Or.inl rfl | exact Or.inr rfl) (hf : (scope.names.lookup x == some .cell) = true ∨ (compEnvC scope [] 0 X.env).scope.names.lookup x = some .local := by first | exact Or.inr rfl | exact Or.inl rfl)
    (hy : Loc (compEnvC scope [] 0 X.env).scope y := by first | exact Or.inl rfl | exact Or.inr rfl) (hf2 : (scope.names.lookup y == some .cell) = true ∨ (compEnvC scope [] 0 X.env).scope.names.lookup y = some .local := by first | exact Or.inr rfl | exact Or.inl rfl)
    (hs : ∀ v, foldedSetIterable a X.env v = pure v := by intro _; rfl) :
    LcD X B (.ListComp elt [⟨.Tuple [.Name x px, .Name y py] tn tp, a, [c], 0⟩] scope pos) r (.list ((L.filter pb).map f)) := by
  obtain ⟨ta, pa, ka⟩ := hn'
  have pg : ∀ s H0 C cl fp, PG (Blk X scope s H0 cl C fp) (.Tuple [.Name x px, .Name y py] tn tp) (gTup X.K 2 (gCons (gName ix) (gCons (gName jx) gNil))) := fun s H0 C cl fp => pg_tup (X := Blk X scope s H0 cl C fp) g.calm (pgs_cons (pg_name (i := ix) g.nd hi hx hf) (pgs_cons (pg_name (i := jx) g.nd hj hy hf2) pgs_nil rfl) rfl) rfl rfl
  have pt : ∀ s H0 C cl fp, PTs (Blk X scope s H0 cl C fp) [c] (fun σ H Q => ∀ s H0 C cl fp, wT (Blk X scope s H0 cl C fp) c σ H Q) := fun s H0 C cl fp => pts_one ⟨fun pins s' σ H Q I z => wT_ok.run pins s' σ H Q I (z s H0 C cl fp)⟩
  refine ⟨_, pe_lc (own := [(x, ix), (y, jx)]) (te := fun σ H Q => ∀ s H0 C cl fp, wE (Blk X scope s H0 cl C fp) elt σ H Q) g.calm g.nd (pi_list pa) ok pg pt (fun s H0 C cl fp => ⟨fun pins s' σ H Q I z => wE_ok.run pins s' σ H Q I (z s H0 C cl fp)⟩) hs, fun i y py spos hy hl hsw => ps_setLc (own := [(x, ix), (_, jx)]) (te := fun σ H Q => ∀ s H0 C cl fp, wE (Blk X scope s H0 cl C fp) elt σ H Q) g.calm g.nd hy hl hsw (pi_list pa) ok pg pt (fun s H0 C cl fp => ⟨fun pins s' σ H Q I z => wE_ok.run pins s' σ H Q I (z s H0 C cl fp)⟩) hs, fun H σ S Q q => ?_⟩
  refine ka H σ S _ fun a xs H1 s1 h1' h2 => ?_
  refine ⟨a, rfl, ⟨xs, h1'⟩, fun Dl hD => ?_⟩
  have S1 := S.mono s1
  have hl := h2.len
  rw [List.length_map] at hl
  have Sw : SOk X.K B r H1 (wipe σ [ix, jx]) := by
    have S' := (S1.setNo (i := jx)).setNo (i := ix)
    rw [set_self h1, set_self h0] at S'
    exact S'
  refine lc_list (g := gTup X.K 2 (gCons (gName ix) (gCons (gName jx) gNil))) (tt := fun σ H Q => ∀ s H0 C cl fp, wT (Blk X scope s H0 cl C fp) c σ H Q) (te := fun σ H Q => ∀ s H0 C cl fp, wE (Blk X scope s H0 cl C fp) elt σ H Q) (vs := [ix, jx]) (σ := σ) (K := X.K) (a := a) (xs := xs) (fun i H' => LcW X.K B r (wipe σ [ix, jx]) H1 Dl (((L.take i).filter pb).map f) H') ⟨same_new hD, Sw.dock hD, fun z => S1.dom Dl (List.mem_append_right _ (S1.gp Dl z)) hD, [], upd_same, .nil⟩ (fun i H' _ p => p.1.seq h1') (fun i v H' hv p => ?_) fun H' p => let ⟨p1, _, _, acc, p2, p3⟩ := p; q Dl H1 H' acc _ rfl s1 hD S1 p1 p2 ?_
  · obtain ⟨d, hd, rd⟩ := h2.getV hv
    rw [List.getElem?_map] at hd
    cases e : L[i]? with
    | none => rw [e] at hd; cases hd
    | some u =>
      rw [e] at hd
      cases hd
      have e2 : ((L.take (i + 1)).filter pb).map f = if pb u = true then ((L.take i).filter pb).map f ++ [f u] else ((L.take i).filter pb).map f := by
        rw [List.take_succ, e, List.filter_append, List.map_append]
        cases hb : pb u with
        | true => rw [if_pos rfl]; show _ ++ (([u].filter pb).map f) = _; rw [List.filter_cons_of_pos hb]; rfl
        | false => rw [if_neg Bool.false_ne_true]; show _ ++ (([u].filter pb).map f) = _; rw [List.filter_cons_of_neg (by rw [hb]; exact Bool.false_ne_true)]; exact List.append_nil _
      rw [e2]
      have hi' := (List.getElem?_eq_some_iff.mp e).1
      have hu := List.mem_of_getElem? e
      refine lcW_turnF (tt := fun σ H Q => ∀ s H0 C cl fp, wT (Blk X scope s H0 cl C fp) c σ H Q) hne h0 h1 hD ?_ (fun hp s H0 C cl fp H' q' => he s H0 C cl fp H' q' u hu hp) (fun H' q' H σ S Q z s H0 C cl fp => ?_) p (rd.mono (p.see hD))
      · rw [List.length_map]
        have := List.length_filter_le pb (L.take i)
        rw [List.length_take] at this
        omega
      · obtain ⟨t, pp, kk⟩ := hc s H0 C cl fp H' q' u hu
        exact ⟨t, pp, kk H σ S Q z⟩
  · rw [hl, List.take_length] at p3
    exact p3
end
section
variable {X : Cx} {B : Bx} {W : WX} {r : List Sl} {d : D} {pos : Pos} {kk : Nat}
/-- what a triple does to three slots -/
def tq3 (i j k : Nat) : D → List Sl → List Sl
  | .tuple [a, b, c], r => ((r.set i (.im a)).set j (.im b)).set k (.im c)
  | _, r => r
theorem gt_trip (i j k : Nat) {x y z : Str} {px py pz : Pos} {n : Nat} (g : Go X W kk) (hd : ∃ a b c, d = .tuple [a, b, c]) (hi : X.N[i]? = some x := by rfl) (hx : Loc X.env.scope x := by first | exact Or.inl rfl | exact Or.inr rfl) (hj : X.N[j]? = some y := by rfl) (hy : Loc X.env.scope y := by first | exact Or.inl rfl | exact Or.inr rfl) (hk : X.N[k]? = some z := by rfl) (hz : Loc X.env.scope z := by first | exact Or.inl rfl | exact Or.inr rfl)
    (hf : X.fn x = true ∨ X.env.scope.names.lookup x = some .local := by first | exact .inl rfl | exact .inr rfl) (hf2 : X.fn y = true ∨ X.env.scope.names.lookup y = some .local := by first | exact .inl rfl | exact .inr rfl) (hf3 : X.fn z = true ∨ X.env.scope.names.lookup z = some .local := by first | exact .inl rfl | exact .inr rfl)
    (hs : (assignEach [.Name x px, .Name y py, .Name z pz] X.env).map (·.2) = assign (.Name x px) X.env :: (assignEach [.Name y py, .Name z pz] X.env).map (·.2) := by rfl) (hs2 : (assignEach [.Name y py, .Name z pz] X.env).map (·.2) = assign (.Name y py) X.env :: (assignEach [.Name z pz] X.env).map (·.2) := by rfl) (hs3 : (assignEach [.Name z pz] X.env).map (·.2) = assign (.Name z pz) X.env :: (assignEach [] X.env).map (·.2) := by rfl)
    (hn : (assignEach [.Name x px, .Name y py, .Name z pz] X.env).length = 3 := by rfl) (hst : (assignEach [.Name x px, .Name y py, .Name z pz] X.env).findIdx? (·.1) = none := by rfl) : GT X B (.Tuple [.Name x px, .Name y py, .Name z pz] n pos) r d (tq3 i j k d r) := by
  obtain ⟨a, b, c, rfl⟩ := hd
  exact gt_tup g.calm (gts_cons i g.nd (gts_cons j g.nd (gts_cons k g.nd gts_nil hk hz hf3 hs3) hj hy hf2 hs2) hi hx hf hs) hn hst
end
end Tp

/-! a comparison whose first part makes a list -/
namespace Tp
open PySem L2
section
variable {X : Cx} {B : Bx} {W : WX} {r : List Sl} {a b : Expr} {pos : Pos} {iG : Nat} {gl : List (Addr × Nd)} {Po1 : Rs → List (Addr × Nd) → Prop}
theorem etgCmpL {op : CmpOp} {Pk : Bool → List (Addr × Nd) → Prop} (he : EOb X B W iG a r Po1 fun _ _ => False) (hG : r[iG]? = some (.gs gl)) (h : ∀ s gl', Po1 s gl' → ∃ l ds d2 k, s = .rf l ∧ (l, Nd.ls (ds.map It.da)) ∈ gl' ∧ EH X B b (r.set iG (.gs gl')) d2 ∧ CV X op (.list ds) d2 k ∧ Pk k gl') (hm : behindInMarks op b = false := by first | exact nomark _ | rfl) : ETg X B W iG (.Compare a [op] [b] pos) r Pk := by
  obtain ⟨ta, pa, ka⟩ := he
  refine ⟨_, pt_cmpR wR_ok pa (wE_ok (e := b)) hm, fun H σ S Q q => ka H σ S _ (fun s v gl' H' S' ro ho => ?_) fun _ _ _ _ z => z.elim⟩
  obtain ⟨l, ds, d2, k, rfl, hmem, ⟨tb, pb, kb⟩, ⟨rr, po, ko⟩, hPo⟩ := h s gl' ho
  cases ro
  have hI : InG B (r.set iG (.gs gl')) (l, Nd.ls (ds.map It.da)) := .inr (.inl ⟨iG, gl', get_set (s' := .gs gl') hG, hmem⟩)
  obtain ⟨vs, e1, y⟩ := hI.ok S'
  have ro : Rp X.K H' (.ref l) (.list ds) := .lst (SqL.of e1) (y.das.mono hide_same)
  exact ⟨tb, pb, kb H' σ S' _ fun y H2 s2 ry => ⟨rr, po, ko H2 _ y (ro.mono s2) ry _ ⟨k, rfl, q k gl' H2 (S'.mono s2) hPo⟩⟩⟩
end
end Tp

/-! lists that hold references; tuples of a made list -/
namespace Tp
open PySem L2
section
variable {X : Cx} {B : Bx} {W : WX} {r : List Sl} {a b e : Expr} {es : List Expr} {pos p1 : Pos} {iG : Nat} {p l : Addr} {ds : List D} {gl g2 : List (Addr × Nd)} {its : List It} {Po1 : Rs → List (Addr × Nd) → Prop}
theorem ItA.len2 {K : PySem.W.Frag} {H : Hp} {vs : List V} (h : ItA K H vs its) : vs.length = its.length := h.len
theorem ItA.getR {K : PySem.W.Frag} {H : Hp} : ∀ {vs : List V} {its : List It} {j : Nat}, ItA K H vs its → its[j]? = some (.rf p) → vs[j]? = some (.ref p)
  | _, _, 0, .cons h _, e => by cases e; exact congrArg some h
  | _, _, j + 1, .cons _ h, e => by
    rw [List.getElem?_cons_succ] at e ⊢
    exact ItA.getR h e
/-- x[i], x a list that holds references -/
theorem erIx {i : Int} (ha : ER X B a r l) (hG : InG B r (l, Nd.ls its)) (hb : EV X B b r (.int i)) (hi : atI its i = some (.rf p)) (hs : PlainIx b := by exact fun _ _ => rfl) : ER X B (.Subscript a b pos) r p := by
  obtain ⟨ta, pa, ka⟩ := ha
  obtain ⟨tb, pb, kb⟩ := hb
  refine ⟨_, pe_ix ix_list pa pb hs, fun H σ S Q q => ka H σ S _ fun H1 s1 => kb H1 σ (S.mono s1) _ fun w H2 s2 u => ?_⟩
  cases u
  obtain ⟨vs, e1, ia⟩ := hG.ok ((S.mono s1).mono s2)
  refine ⟨_, _, _, _, rfl, rfl, SqL.of e1, ?_, q H2 (s1.trans s2)⟩
  unfold atI at hi ⊢
  rw [ia.len]
  cases e : ixN its.length i with
  | none => rw [e] at hi; cases hi
  | some j => rw [e] at hi; exact ItA.getR ia hi
/-- [x, ..] that holds references, among the ghosts -/
theorem eoLr (h : EAi X B es r its) (hG : r[iG]? = some (.gs gl)) (hl : its.length ≤ 100000 := by first | decide | simp) : EOb X B W iG (.List es pos) r (fun s gl' => ∃ l, s = .rf l ∧ gl' = gl ++ [(l, Nd.ls its)]) (fun _ _ => False) := by
  obtain ⟨t, p, q⟩ := h
  refine ⟨_, pe_lst p, fun H σ S Q z _ => q H σ S _ fun vs H1 s1 y => ⟨by rw [y.len]; exact line_of hl, fun l hl => ?_⟩⟩
  exact z (.rf l) (.ref l) _ _ ((S.mono s1).gadd (iG := iG) hG hl y) rfl ⟨l, rfl, rfl⟩
/-- tuple(x), x a list that a call makes; the list is forgotten -/
theorem eoTupE (he : EOb X B W iG e r Po1 fun _ _ => False) (hG : r[iG]? = some (.gs gl)) (h : ∀ s gl', Po1 s gl' → ∃ l, s = .rf l ∧ (l, Nd.ls (ds.map It.da)) ∈ gl' ∧ gl.Sublist gl') (hm : X.mg "tuple" = none) (hg : Gl X "tuple" := by rfl) (hst : NSt X e := by exact fun _ => rfl) : EOb X B W iG (.Call (.Name "tuple" p1) [e] [] pos) r (fun s gl' => s = .da (.tuple ds) ∧ gl' = gl) fun _ _ => False := by
  refine eoSub (Po1 := fun s gl' => s = .da (.tuple ds) ∧ gl.Sublist gl') (?_ : EOb X B W iG (.Call (.Name "tuple" p1) [e] [] pos) r _ _) hG fun s gl' ho => ⟨gl, ho.2, ho.1, rfl⟩
  obtain ⟨t, pp, q⟩ := he
  refine ⟨_, pe_callTy call_tuple_of hg hm (by decide +kernel) (pa_cons pp pa_nil (hst _)) (he := hst _), fun H σ S Q z _ => q H σ S _ (fun s v gl' H1 S1 ro hP => ?_) fun _ _ _ _ y => y.elim⟩
  obtain ⟨l, rfl, hmem, hs⟩ := h s gl' hP
  cases ro
  have hI : InG B (r.set iG (.gs gl')) (l, Nd.ls (ds.map It.da)) := .inr (.inl ⟨iG, gl', get_set (s' := .gs gl') hG, hmem⟩)
  obtain ⟨vs, e1, y⟩ := hI.ok S1
  exact ⟨l, vs, rfl, .inl ⟨SqL.of e1, fun l2 hl => z (.da (.tuple ds)) _ gl' _ (S1.mono (same_new hl)) (.tup (SqT.of (hide_new hl S1.dom)) (y.das.mono (hide_mono (same_new hl)))) ⟨rfl, hs⟩⟩⟩
/-- (e, ..) with turning parts: data -/
theorem eoTupG {m : Nat} (h : EAg X B iG es r ds g2) (hl : ds.length ≤ 100000 := by first | exact Nat.le_of_ble_eq_true rfl | decide | simp) : EOb X B W iG (.Tuple es m pos) r (fun s gl' => s = .da (.tuple ds) ∧ gl' = g2) (fun _ _ => False) := by
  obtain ⟨t, p, q⟩ := h
  refine ⟨_, pe_tup p, fun H σ S Q z _ => q H σ S _ fun vs H1 S1 y => ⟨by rw [y.len]; exact line_of hl, fun l hl => ?_⟩⟩
  exact z (.da (.tuple ds)) (.ref l) g2 _ (S1.mono (same_new hl)) (.tup (SqT.of (hide_new hl S1.dom)) (y.mono (hide_mono (same_new hl)))) ⟨rfl, rfl⟩
end
end Tp

/-! data compared with what turns ghosts -/
namespace Tp
open PySem L2
section
variable {X : Cx} {B : Bx} {W : WX} {r : List Sl} {a b : Expr} {d1 d2 : D} {pos : Pos} {iG : Nat} {Po1 : Rs → List (Addr × Nd) → Prop}
/-- a comparison whose second part turns ghosts -/
theorem etgCmpVD {op : CmpOp} {Pk : Bool → List (Addr × Nd) → Prop} (ha : EV X B a r d1) (hb : ∀ H1, EOb X ⟨H1, B.ps, B.ts, B.gr⟩ W iG b r Po1 fun _ _ => False) (h : ∀ s gl', Po1 s gl' → ∃ d2 k, s = .da d2 ∧ CV X op d1 d2 k ∧ Pk k gl') (hm : behindInMarks op b = false := by first | exact nomark _ | rfl) : ETg X B W iG (.Compare a [op] [b] pos) r Pk := by
  obtain ⟨ta, pa, ka⟩ := ha
  refine ⟨_, pt_cmpR wR_ok pa (wE_ok (e := b)) hm, fun H σ S Q q => ka H σ S _ fun u H1 s1 ru => ?_⟩
  have S1 := S.mono s1
  obtain ⟨tb, pb, kb⟩ := hb (hide H1 (own r))
  refine ⟨tb, pb, kb H1 σ S1.rebase _ (fun s v gl' H' S' ro ho => ?_) fun _ _ _ _ z => z.elim⟩
  obtain ⟨d2, k, rfl, ⟨rr, po, ko⟩, hPo⟩ := h s gl' ho
  have S3 := S1.back S'
  have y := Rp.past S' ru
  have ro : Rp X.K (hid B (r.set iG (.gs gl')) H') v d2 := ro
  exact ⟨rr, po, ko H' u v (y.mono hide_same) (ro.mono hide_same) _ ⟨k, rfl, q k gl' H' S3 hPo⟩⟩
end
end Tp

/-! own exceptions with a text -/
namespace Tp
open PySem L2
section
variable {X : Cx} {B : Bx} {W : WX} {P : Po} {r : List Sl} {rest : List Stmt} {pos pos' p p2 : Pos} {k j : Nat} {x m : Str}
/-- raise C('m') -/
theorem sv_raiseT {C : Addr} (g : Go X W k) (T : XcT X.K X.mg x C) (h : P.ex C r) (hg : Gl X x := by rfl) (hdb : (x == ("__debug__" : Str)) = false := by decide) : SV X B W (.Raise (some (.Call (.Name x p) [.Constant (.str m) j p2] [] pos)) none pos' :: rest) r P :=
  fun H σ E S kt => ⟨_, pss_cons (ps_raise g.calm g.tk (pmk_own PySem.F.excBase_ValueError T.ex T.gC T.kC T.raises hg hdb)) wS_ok, kt.ex C r σ H S h⟩
end
end Tp

/-! x = [.. for ..], an owned list -/
namespace Tp
open PySem L2
section
variable {X : Cx} {B : Bx} {W : WX} {P : Po} {r : List Sl} {rest : List Stmt} {pos pos' : Pos} {x : Str} {ds : List D}
theorem sv_asgLcO (i : Nat) {elt : Expr} {gs : List Comprehension} {scope : Scope} {lp : Pos} (he : LcD X B (.ListComp elt gs scope lp) r (.list ds)) (h : ∀ p, SV X B W rest (r.set i (.ol p ds)) P) (hi : X.N[i]? = some x := by rfl) (hx : X.env.scope.names.lookup x = some .local := by rfl)
    (hk : X.env.scope.kind = .function := by rfl) (hl : (pos'.line == lp.line) = true := by rfl) (ha : (scope.names.any fun (n, k) => n == x && (k == .local || k == .cell)) = false := by rfl) : SV X B W (.Assign [.Name x pos'] (.ListComp elt gs scope lp) pos :: rest) r P := fun H σ E S kt => by
  obtain ⟨te, _, p, q⟩ := he
  refine ⟨_, pss_cons (p i x pos' pos hi hx (sw_true hk hx hl ha)) wS_ok, q H σ S _ fun Dl H1 H' acc ds' ed s1 hD S1 s2 p2 p3 => ?_⟩
  cases ed
  have e1 : ∀ b, b ≠ Dl → (fun b => if b = Dl then none else H' b) b = H' b := fun b hb => if_neg hb
  have s3 : Same H1 (fun b => if b = Dl then none else H' b) := fun b u eb => by
    rw [e1 b (ne_of_none eb hD)]; exact s2 b u eb
  have e2 : upd (fun b => if b = Dl then none else H' b) Dl (.lst acc) = H' := by
    funext b
    by_cases hb : b = Dl
    · subst hb; rw [upd_same, p2]
    · rw [upd_ne hb]; exact if_neg hb
  have ra : RpA X.K (hid B r (fun b => if b = Dl then none else H' b)) acc ds := p3.mono fun b u eb => by
    by_cases hb : b = Dl
    · subst hb; rw [hide_in List.mem_cons_self] at eb; cases eb
    · by_cases hb2 : b ∈ own r ++ B.ps
      · rw [hide_in (List.mem_cons_of_mem _ hb2)] at eb; cases eb
      · rw [hide_out (fun z => (List.mem_cons.mp z).elim hb hb2)] at eb
        refine .inl ?_
        show hide _ (own r ++ B.ps) b = _
        rw [hide_out hb2]; exact (if_neg hb).trans eb
  have S3 := (S.mono (s1.trans s3)).put (i := i) (s := .ol Dl ds) (o := .lst acc) rfl (if_pos rfl) ⟨rfl, acc, upd_same, ra⟩
  rw [e2] at S3
  exact h Dl _ _ E S3 kt
end
end Tp


namespace Tp
open PySem L2
def cell (ns : List Int) (k : Int) : Int :=
  if decide ((if decide (k < ((ns.map PyData.int).length : Int)) = true then ns.getD k.toNat 0 else 0) < 0) = true then 0 - 2 * (if decide (k < ((ns.map PyData.int).length : Int)) = true then ns.getD k.toNat 0 else 0) - 1 else (if decide (k < ((ns.map PyData.int).length : Int)) = true then ns.getD k.toNat 0 else 0)
def numF (c k : Int) : Int := ((c * 48271 + k * 69621 + 11) % 2147483647 * 16807 + k * 12345 + 99991) % 2147483629
def numS (c k : Int) : Int := ((numF c k * 40692 + k * 3791 + c) % 2147483399 * 69621 + 7) % 2147483647
def num (ns : List Int) (k : Int) : Int := if 1000000000 ≤ cell ns k then cell ns k else numF (cell ns k) k * 2147483647 + numS (cell ns k) k
theorem cell_nn (ns : List Int) (k : Int) : 0 ≤ cell ns k := by
  unfold cell
  generalize (if decide (k < ((ns.map PyData.int).length : Int)) = true then ns.getD k.toNat 0 else 0) = z
  by_cases h : z < 0
  · rw [if_pos (decide_eq_true h)]; omega
  · rw [if_neg (by simpa using h)]; omega
theorem numF_in (c k : Int) : 0 ≤ numF c k ∧ numF c k < 2147483629 := by unfold numF; omega
theorem numS_in (c k : Int) : 0 ≤ numS c k ∧ numS c k < 2147483647 := by unfold numS; omega
theorem num_nn (ns : List Int) (k : Int) : 0 ≤ num ns k := by
  unfold num
  have h1 := numF_in (cell ns k) k
  have h2 := numS_in (cell ns k) k
  split
  · exact cell_nn ns k
  · omega
end Tp

namespace Tp
open PySem L2
def keyF (s : Int) : Int := (s * 1103515245 + 12345) % 4294967296
def amt (n : Int) : Int := if n % 16 = 3 then 1000000000000000 - n / 16 % 3 else n / 16 % 40
def hgt (n : Int) : Int := if n % 16 = 5 then 1000000000000 - n / 16 % 3 else n / 16 % 24
theorem keyF_in (s : Int) : 0 ≤ keyF s ∧ keyF s < 4294967296 := by unfold keyF; omega
theorem amt_in (n : Int) : 0 ≤ amt n ∧ amt n ≤ 1000000000000000 := by unfold amt; split <;> omega
theorem hgt_in (n : Int) : 0 ≤ hgt n ∧ hgt n ≤ 1000000000000 := by unfold hgt; split <;> omega
end Tp

namespace Tp
open PySem L2
/-- receipts: keys with their heights -/
def rcv (m : List (Int × Int)) : List (Key × D) := m.map fun x => (Sum.inl x.1, .int x.2)
def look (m : List (Int × Int)) (k : Int) : Option Int := (m.find? fun x => decide (x.1 = k)).map (·.2)
def putI (m : List (Int × Int)) (k h : Int) : List (Int × Int) := if (m.any fun x => decide (x.1 = k)) = true then m.map (fun x => if x.1 = k then (x.1, h) else x) else m ++ [(k, h)]
theorem lk_rcv (k : Int) : ∀ m, lkK (rcv m) (Sum.inl k) = (look m k).map PyData.int
  | [] => rfl
  | (a, b) :: m => by
    have ih := lk_rcv k m
    unfold rcv at ih ⊢
    unfold look at ih ⊢
    rw [List.map_cons, List.find?_cons]
    unfold lkK
    by_cases e : a = k
    · subst e; rw [if_pos rfl, decide_eq_true rfl]; rfl
    · rw [if_neg (fun z => e (Sum.inl.inj z)), decide_eq_false e]; exact ih
theorem any_rcv (k : Int) : ∀ m, ((rcv m).any fun x => decide (x.1 = (Sum.inl k : Key))) = m.any fun x => decide (x.1 = k)
  | [] => rfl
  | (a, b) :: m => by
    show (decide ((Sum.inl a : Key) = Sum.inl k) || (rcv m).any fun x => decide (x.1 = (Sum.inl k : Key))) = (decide (a = k) || m.any fun x => decide (x.1 = k))
    rw [any_rcv k m]
    congr 1
    exact dec_eqv ⟨fun z => Sum.inl.inj z, fun z => congrArg Sum.inl z⟩
theorem putD_rcv (m : List (Int × Int)) (k h : Int) : putD (rcv m) (Sum.inl k) (.int h) = rcv (putI m k h) := by
  unfold putD putI
  rw [any_rcv]
  split
  · unfold rcv
    rw [List.map_map, List.map_map]
    refine List.map_congr_left fun x _ => ?_
    show (if (Sum.inl x.1 : Key) = Sum.inl k then ((Sum.inl x.1 : Key), PyData.int h) else (Sum.inl x.1, .int x.2)) = (fun x : Int × Int => ((Sum.inl x.1 : Key), PyData.int x.2)) (if x.1 = k then (x.1, h) else x)
    by_cases e : x.1 = k
    · rw [if_pos (congrArg Sum.inl e), if_pos e]
    · rw [if_neg (fun z => e (Sum.inl.inj z)), if_neg e]
  · unfold rcv
    rw [List.map_append]; rfl
theorem putI_len (m : List (Int × Int)) (k h : Int) : (putI m k h).length ≤ m.length + 1 := by
  unfold putI
  split
  · rw [List.length_map]; omega
  · rw [List.length_append]; exact Nat.le_refl _
theorem look_put (m : List (Int × Int)) (k h : Int) : look (putI m k h) k = some h := by
  unfold putI
  split
  · rename_i c
    induction m with
    | nil => cases c
    | cons a m ih =>
      unfold look at ih ⊢
      rw [List.map_cons, List.find?_cons]
      by_cases e : a.1 = k
      · rw [if_pos e, decide_eq_true e]; rfl
      · rw [if_neg e, decide_eq_false e]
        rw [List.any_cons, decide_eq_false e, Bool.false_or] at c
        exact ih c
  · rename_i c
    induction m with
    | nil => unfold look; simp
    | cons a m ih =>
      rw [List.any_cons, Bool.or_eq_true, not_or] at c
      unfold look at ih ⊢
      rw [List.cons_append, List.find?_cons, decide_eq_false (by simpa using c.1)]
      exact ih c.2
def wasOp (m : List (Int × Int)) (k dl : Int) : Bool := match look m k with
  | none => false
  | some h => decide (h ≤ dl)
theorem wasOp_up {m : List (Int × Int)} {k a b : Int} (h : wasOp m k a = true) (l : a ≤ b) : wasOp m k b = true := by
  unfold wasOp at h ⊢
  split at h
  · cases h
  · have := of_decide_eq_true h
    exact decide_eq_true (by omega)
theorem wasOp_nil (k a : Int) : wasOp [] k a = false := rfl
def recM (n : Int) : Nat → List (Int × Int)
  | 0 => []
  | j + 1 => putI (recM n j) (keyF (n / (7 + (j : Int) * 5) % 6)) (hgt (n / (11 + (j : Int) * 13)))
def recs (n : Int) : List (Int × Int) := recM n (n % 7).toNat
theorem rcv_len (m : List (Int × Int)) : (rcv m).length = m.length := List.length_map _
theorem recM_len (n : Int) : ∀ j, (rcv (recM n j)).length ≤ j
  | 0 => Nat.le_refl _
  | j + 1 => by
    have h := recM_len n j
    rw [rcv_len] at h ⊢
    exact Nat.le_trans (putI_len _ _ _) (Nat.succ_le_succ h)
theorem recs_len (n : Int) : (rcv (recs n)).length ≤ 6 := Nat.le_trans (recM_len n _) (by omega)
end Tp

namespace Tp
open PySem L2
structure Lk where
  k : Int
  a : Int
  dl : Int
  b : Bool
def lkD (l : Lk) : D := .tuple [.int l.k, .int l.a, .int l.dl, .bool l.b]
def lks (ls : List Lk) : List D := ls.map lkD
def lkOf (n : Int) : Lk := ⟨keyF (n / 2 % 6), amt (n / 12), hgt (n / 7777), decide (n % 2 = 0)⟩
def lksL (n : Int) : Nat → List Lk
  | 0 => []
  | j + 1 => lksL n j ++ [lkOf ((n + (j : Int) * 7919) * (2 * (j : Int) + 1) / ((j : Int) + 1))]
def lksD (n : Int) : Nat → List D
  | 0 => []
  | j + 1 => lksD n j ++ [lkD (lkOf ((n + (j : Int) * 7919) * (2 * (j : Int) + 1) / ((j : Int) + 1)))]
theorem lksD_is (n : Int) : ∀ j, lksD n j = lks (lksL n j)
  | 0 => rfl
  | j + 1 => by
    unfold lksD lksL lks
    rw [List.map_append, lksD_is n j]
    rfl
theorem lksD_len (n : Int) : ∀ j, (lksD n j).length = j
  | 0 => rfl
  | j + 1 => by
    unfold lksD
    rw [List.length_append, lksD_len n j]
    rfl
def lksOf (n many : Int) : List Lk := lksL n many.toNat
theorem lks_len (ls : List Lk) : (lks ls).length = ls.length := List.length_map _
theorem lksOf_len (n many : Int) : (lksOf n many).length = many.toNat := by
  have h := lksD_len n many.toNat
  rw [lksD_is, lks_len] at h
  exact h
theorem lks_at {ls : List Lk} {i : Nat} {d : D} (h : (lks ls)[i]? = some d) : ∃ l, ls[i]? = some l ∧ d = lkD l := by
  unfold lks at h
  rw [List.getElem?_map] at h
  cases e : ls[i]? with
  | none => rw [e] at h; cases h
  | some l => rw [e] at h; exact ⟨l, rfl, (Option.some.inj h).symm⟩
theorem shp_lk (l : Lk) (n : Nat) : Shp (n + 1) (lkD l) := .tup (.cons .int (.cons .int (.cons .int (.cons .bl .nil))))
theorem shp_lks (ls : List Lk) (n : Nat) : ShpA (n + 1) (lks ls) := ShpA.map (fun l => shp_lk l n) ls
theorem fold_take {α β : Type} {f : β → α → β} {l : List α} {i : Nat} {x : α} {s : β} (h : l[i]? = some x) : (l.take (i + 1)).foldl f s = f ((l.take i).foldl f s) x := by
  rw [List.take_succ, h, List.foldl_append]
  rfl
theorem any_take {α : Type} {p : α → Bool} {l : List α} {i : Nat} {x : α} (h : l[i]? = some x) : (l.take (i + 1)).any p = ((l.take i).any p || p x) := by
  rw [List.take_succ, h, List.any_append]
  simp
theorem all_take {α : Type} {p : α → Bool} {l : List α} {i : Nat} {x : α} (h : l[i]? = some x) : (l.take (i + 1)).all p = ((l.take i).all p && p x) := by
  rw [List.take_succ, h, List.all_append]
  simp
/-- what the locks are worth to the two ends -/
def stp (m : List (Int × Int)) (s : Int × Int) (l : Lk) : Int × Int := if wasOp m l.k l.dl = l.b then (s.1, s.2 + l.a) else (s.1 + l.a, s.2)
def shr (m : List (Int × Int)) (ls : List Lk) : Int × Int := ls.foldl (stp m) (0, 0)
theorem items_len (m : List (Int × Int)) : (itemsD (rcv m)).length = m.length := by
  unfold itemsD rcv
  rw [List.length_map, List.length_map]
theorem items_at {m : List (Int × Int)} {i : Nat} {d : D} (h : (itemsD (rcv m))[i]? = some d) : ∃ x, m[i]? = some x ∧ d = .tuple [.int x.1, .int x.2] := by
  unfold itemsD rcv at h
  rw [List.map_map, List.getElem?_map] at h
  cases e : m[i]? with
  | none => rw [e] at h; cases h
  | some l => rw [e] at h; exact ⟨l, rfl, (Option.some.inj h).symm⟩
theorem items_pair {m : List (Int × Int)} {i : Nat} {d : D} (h : (itemsD (rcv m))[i]? = some d) : ∃ a b, d = PyData.tuple [a, b] := by
  obtain ⟨x, _, e⟩ := items_at h
  exact ⟨_, _, e⟩
theorem shp_items (m : List (Int × Int)) (n : Nat) : Shp (n + 2) (.list (itemsD (rcv m))) := by
  unfold itemsD rcv
  rw [List.map_map]
  exact .lst (ShpA.map (fun x => .tup (.cons .int (.cons .int .nil))) m)
theorem putI_nd {m : List (Int × Int)} {k h : Int} (nd : (m.map (·.1)).Nodup) : ((putI m k h).map (·.1)).Nodup := by
  unfold putI
  split
  · rw [List.map_map]
    have e : (m.map ((fun x : Int × Int => x.1) ∘ fun x => if x.1 = k then (x.1, h) else x)) = m.map (·.1) := by
      refine List.map_congr_left fun x _ => ?_
      show (if x.1 = k then (x.1, h) else x).1 = x.1
      split <;> rfl
    rw [e]; exact nd
  · rename_i c
    rw [List.map_append]
    refine List.nodup_append.mpr ⟨nd, by simp, fun a ha b hb e => c ?_⟩
    have hb' : b = k := by simpa using hb
    rw [e, hb'] at ha
    obtain ⟨x, hx, ex⟩ := List.mem_map.mp ha
    exact List.any_eq_true.mpr ⟨x, hx, decide_eq_true ex⟩
theorem recM_nd (n : Int) : ∀ j, ((recM n j).map (·.1)).Nodup
  | 0 => List.nodup_nil
  | j + 1 => putI_nd (recM_nd n j)
theorem recs_nd (n : Int) : ((recs n).map (·.1)).Nodup := recM_nd n _
theorem any_was {k d : Int} : ∀ {m : List (Int × Int)}, (m.map (·.1)).Nodup → (m.any fun x => decide (x.1 = k) && decide (x.2 ≤ d)) = wasOp m k d
  | [], _ => rfl
  | (a, b) :: m, nd => by
    obtain ⟨h1, h2⟩ := List.nodup_cons.mp nd
    have ih := any_was (k := k) (d := d) h2
    rw [List.any_cons]
    by_cases e : a = k
    · subst e
      have no : (m.any fun x => decide (x.1 = a) && decide (x.2 ≤ d)) = false := by
        rw [List.any_eq_false]
        intro x hx z
        rw [Bool.and_eq_true] at z
        exact h1 (List.mem_map.mpr ⟨x, hx, of_decide_eq_true z.1⟩)
      rw [no, decide_eq_true rfl, Bool.true_and, Bool.or_false]
      unfold wasOp look
      rw [List.find?_cons, decide_eq_true rfl]
      rfl
    · rw [decide_eq_false e, Bool.false_and, Bool.false_or, ih]
      unfold wasOp look
      rw [List.find?_cons, decide_eq_false e]
theorem two_ints {a b : Int} {i : Nat} {d : D} (h : ([.int a, .int b] : List D)[i]? = some d) : ∃ z, d = .int z := by
  match i, h with
  | 0, h => exact ⟨a, (Option.some.inj h).symm⟩
  | 1, h => exact ⟨b, (Option.some.inj h).symm⟩
  | n + 2, h => simp at h
theorem xnor {a b : Bool} (h : (a && b || !a && !b) = true) : a = b := by cases a <;> cases b <;> simp_all
theorem xnor' {a b : Bool} (h : (a && b || !a && !b) = false) : ¬ a = b := by cases a <;> cases b <;> simp_all
end Tp

namespace Tp
open PySem L2
def stN (n : Int) : Int := if n / 230400 % 7 = 6 then 4294967279 else n / 230400 % 7
def stA (n : Int) : Int := if n / 28800 % 8 = 1 then n / 8 % 60 - 10 + 1000000000000000 else n / 8 % 60 - 10
def stL (n m : Int) : List Lk := lksOf m ([2, 0, 7, 8, 9, 3, 1, 4].getD (n % 8).toNat 0)
def stD (c n a b : Int) (l : List Lk) (f : Bool) : D := .tuple [.int c, .int n, .int a, .int b, .tuple (lks l), .bool f]
def coA (n : Int) : Int := if n % 3 = 0 then 0 else n / 3 % 60 - 20
def coB (n : Int) : Int := if n % 3 = 0 then 0 else n / 180 % 60 - 20
inductive Mv where
  | lock (k a dl : Int)
  | paid (p : Nat) (s : Int)
  | dropped (p : Nat)
  | back (p : Nat)
  | finish
  | transfer (a : Int)
def mvD : Mv → D
  | .lock k a dl => .tuple [.str "lock", .int k, .int a, .int dl]
  | .paid p s => .tuple [.str "paid", .int (p : Int), .int s]
  | .dropped p => .tuple [.str "dropped", .int (p : Int)]
  | .back p => .tuple [.str "back", .int (p : Int)]
  | .finish => .tuple [.str "finish"]
  | .transfer a => .tuple [.str "transfer", .int a]
def mvOf (n : Int) : Mv :=
  if n % 8 = 0 ∨ n % 8 = 6 then .lock (keyF (n / 8 % 6)) (amt (n / 8 / 6)) (hgt (n / 8 / 5000))
  else if n % 8 = 1 then .paid (n / 8 % 9).toNat (n / 8 / 9 % 6)
  else if n % 8 = 2 then .dropped (n / 8 % 9).toNat
  else if n % 8 = 3 then .back (n / 8 % 9).toNat
  else if n % 8 = 5 ∧ n / 8 % 3 = 0 then .finish
  else .transfer (amt (n / 8 / 3))
theorem stL_len (n m : Int) : (stL n m).length ≤ 9 := by
  unfold stL
  rw [lksOf_len]
  have h : ∀ i : Nat, ([2, 0, 7, 8, 9, 3, 1, 4] : List Int).getD i 0 ≤ 9 := by
    intro i
    match i with
    | 0 => decide
    | 1 => decide
    | 2 => decide
    | 3 => decide
    | 4 => decide
    | 5 => decide
    | 6 => decide
    | 7 => decide
    | n + 8 => simp
  have := h (n % 8).toNat
  omega
theorem many8 (i : Nat) : 0 ≤ ([2, 0, 7, 8, 9, 3, 1, 4] : List Int).getD i 0 ∧ ([2, 0, 7, 8, 9, 3, 1, 4] : List Int).getD i 0 ≤ 1000 := by
  match i with
  | 0 => decide
  | 1 => decide
  | 2 => decide
  | 3 => decide
  | 4 => decide
  | 5 => decide
  | 6 => decide
  | 7 => decide
  | n + 8 => simp
theorem toN {x : Int} (h : 0 ≤ x) : ((x.toNat : Nat) : Int) = x := Int.toNat_of_nonneg h
end Tp

namespace Tp
open PySem L2
structure Spl where
  s0 : Int
  s1 : Int
  s2 : Int
  s3 : Int
  s4 : Int
  s5 : Int
  s6 : Int
  s7 : Int
def slD (s : Spl) : D := .tuple [.int s.s0, .int s.s1, .int s.s2, .int s.s3, .int s.s4, .int s.s5, .int s.s6, .int s.s7]
def sps (L : List Spl) : List D := L.map slD
theorem sps_len (L : List Spl) : (sps L).length = L.length := List.length_map _
theorem sps_snoc (L : List Spl) (s : Spl) : sps (L ++ [s]) = sps L ++ [slD s] := List.map_append
theorem sps_at {L : List Spl} {i : Nat} {d : D} (h : (sps L)[i]? = some d) : ∃ s, L[i]? = some s ∧ d = slD s := by
  unfold sps at h
  rw [List.getElem?_map] at h
  cases e : L[i]? with
  | none => rw [e] at h; cases h
  | some t => rw [e] at h; exact ⟨t, rfl, (Option.some.inj h).symm⟩
def ch0 (s : Spl) : Int := s.s4 - s.s5
def ch1 (s : Spl) : Int := s.s6 - s.s7
structure Ft where
  a : Int
  b : Int
  c : Int
  d : Int
  tk : Int
  sp : List Spl
def suD (f : Ft) : D := .tuple [.int f.a, .int f.b, .int f.c, .int f.d]
def ftF (f : Ft) (l : Addr) : List (Str × It) := [("sums", .da (suD f)), ("taken", .da (.int f.tk)), ("splices", .rf l)]
def ftG (C p dx l : Addr) (f : Ft) : List (Addr × Nd) := [(p, .ob C dx (ftF f l)), (l, .ls ((sps f.sp).map It.da))]
def ft0 : Ft := ⟨0, 0, 0, 0, 0, []⟩
def mnz (L : List Int) : Int := L.foldl (fun m a => if a < m then a else m) 0
def mxz (L : List Int) : Int := L.foldl (fun m a => if a > m then a else m) 0
theorem mn_go : ∀ (L : List Int) (m : Int), L.foldl (fun m a => if a < m then a else m) m ∈ m :: L ∧ ∀ x ∈ m :: L, L.foldl (fun m a => if a < m then a else m) m ≤ x
  | [], m => ⟨List.mem_cons_self, fun x hx => (List.mem_singleton.mp hx) ▸ Int.le_refl _⟩
  | a :: L, m => by
    obtain ⟨h1, h2⟩ := mn_go L (if a < m then a else m)
    rw [List.foldl_cons]
    constructor
    · rcases List.mem_cons.mp h1 with e | e
      · rw [e]
        split
        · exact List.mem_cons_of_mem _ List.mem_cons_self
        · exact List.mem_cons_self
      · exact List.mem_cons_of_mem _ (List.mem_cons_of_mem _ e)
    · intro x hx
      have h3 := h2 _ List.mem_cons_self
      rcases List.mem_cons.mp hx with e | hx
      · subst e
        refine Int.le_trans h3 ?_
        split <;> omega
      · rcases List.mem_cons.mp hx with e | hx
        · subst e
          refine Int.le_trans h3 ?_
          split <;> omega
        · exact h2 x (List.mem_cons_of_mem _ hx)
theorem mx_go : ∀ (L : List Int) (m : Int), L.foldl (fun m a => if a > m then a else m) m ∈ m :: L ∧ ∀ x ∈ m :: L, x ≤ L.foldl (fun m a => if a > m then a else m) m
  | [], m => ⟨List.mem_cons_self, fun x hx => (List.mem_singleton.mp hx) ▸ Int.le_refl _⟩
  | a :: L, m => by
    obtain ⟨h1, h2⟩ := mx_go L (if a > m then a else m)
    rw [List.foldl_cons]
    constructor
    · rcases List.mem_cons.mp h1 with e | e
      · rw [e]
        split
        · exact List.mem_cons_of_mem _ List.mem_cons_self
        · exact List.mem_cons_self
      · exact List.mem_cons_of_mem _ (List.mem_cons_of_mem _ e)
    · intro x hx
      have h3 := h2 _ List.mem_cons_self
      rcases List.mem_cons.mp hx with e | hx
      · subst e
        refine Int.le_trans ?_ h3
        split <;> omega
      · rcases List.mem_cons.mp hx with e | hx
        · subst e
          refine Int.le_trans ?_ h3
          split <;> omega
        · exact h2 x (List.mem_cons_of_mem _ hx)
theorem mnz_is (L : List Int) : mnz L ∈ 0 :: L ∧ ∀ x ∈ 0 :: L, mnz L ≤ x := mn_go L 0
theorem mxz_is (L : List Int) : mxz L ∈ 0 :: L ∧ ∀ x ∈ 0 :: L, x ≤ mxz L := mx_go L 0
theorem mnz_snoc (L : List Int) (a : Int) : mnz (L ++ [a]) = if a < mnz L then a else mnz L := by unfold mnz; rw [List.foldl_append]; rfl
theorem mxz_snoc (L : List Int) (a : Int) : mxz (L ++ [a]) = if a > mxz L then a else mxz L := by unfold mxz; rw [List.foldl_append]; rfl
theorem mp_take {f : Spl → Int} {L : List Spl} {i : Nat} {s : Spl} (h : L[i]? = some s) : (L.take (i + 1)).map f = (L.take i).map f ++ [f s] := by rw [List.take_succ, h, List.map_append]; rfl
theorem mn_cat (f : Spl → Int) (L : List Spl) : [PyData.int 0] ++ ((L.filter fun _ => true).map fun s => PyData.int (f s)) = (0 :: L.map f).map PyData.int := by
  rw [List.filter_eq_self.mpr (fun _ _ => rfl), List.map_cons, List.map_map]; rfl
theorem cat_len (f : Spl → Int) {L : List Spl} (h : L.length ≤ 1000) : [PyData.int 0].length + ((L.filter fun _ => true).map fun s => PyData.int (f s)).length ≤ 100000 := by
  rw [List.filter_eq_self.mpr (fun _ _ => rfl), List.length_map]; show 1 + _ ≤ _; omega
def cov0 (f : Ft) : Int := f.a - f.b + mnz (f.sp.map ch0)
def cov1 (f : Ft) : Int := f.c - f.d + mnz (f.sp.map ch1)
def owe (b : Bool) (f : Ft) : Int := match b with
  | true => mxz (f.sp.map fun s => s.s4)
  | false => mxz (f.sp.map fun s => s.s6)
structure Op where
  o0 : Int
  o1 : Int
  o2 : Int
  o3 : Int
  o4 : Int
  o5 : Int
  o6 : Int
def opD (o : Op) : D := .tuple [.int o.o0, .int o.o1, .int o.o2, .int o.o3, .int o.o4, .int o.o5, .int o.o6]
structure Vt where
  op : Op
  mo : Int
  a : Int
  b : Int
  c : Int
  d : Int
  spl : Int
  least : Int
  pub : D
  since : D
def vsD (v : Vt) : D := .tuple [.int v.a, .int v.b, .int v.c, .int v.d]
def vtF (v : Vt) : List (Str × It) := [("opening", .da (opD v.op)), ("money", .da (.int v.mo)), ("sums", .da (vsD v)), ("splices", .da (.int v.spl)), ("least", .da (.int v.least)), ("published", .da v.pub), ("since", .da v.since)]
def seeF (f : Ft) (v : Vt) (h : Int) : Ft := ⟨v.a, v.b, v.c, v.d, v.spl, (if (!decide (v.spl = f.tk)) = true then [] else f.sp).filter fun s => decide (h ≤ s.s3)⟩
theorem see_yes {f : Ft} {v : Vt} {h : Int} (e : (!decide (v.spl = f.tk)) = true) : seeF f v h = ⟨v.a, v.b, v.c, v.d, v.spl, ([] : List Spl).filter fun s => decide (h ≤ s.s3)⟩ := by unfold seeF; rw [if_pos e]
theorem see_no {f : Ft} {v : Vt} {h : Int} (e : (!decide (v.spl = f.tk)) = false) : seeF f v h = ⟨v.a, v.b, v.c, v.d, v.spl, f.sp.filter fun s => decide (h ≤ s.s3)⟩ := by unfold seeF; rw [if_neg (by rw [e]; exact Bool.false_ne_true)]
structure Ed where
  op : Op
  fi : Bool
  last : D
  step : D
  next : D
  frz : Bool
  lea : Bool
  there : Bool
def edF (e : Ed) (q : Addr) : List (Str × It) := [("opening", .da (opD e.op)), ("as_first", .da (.bool e.fi)), ("last", .da e.last), ("step", .da e.step), ("next", .da e.next), ("frozen", .da (.bool e.frz)), ("leaving", .da (.bool e.lea)), ("footing", .rf q), ("there", .da (.bool e.there))]
def ed0 (o : Op) (b : Bool) : Ed := ⟨o, b, .tuple [.int o.o0, .int 0, .int o.o3, .int o.o4, .tuple [], .bool false], .none, .none, false, false, false⟩
theorem shp_su (f : Ft) (n : Nat) : Shp (n + 1) (suD f) := .tup (.cons .int (.cons .int (.cons .int (.cons .int .nil))))
theorem shp_sp (s : Spl) (n : Nat) : Shp (n + 1) (slD s) := .tup (.cons .int (.cons .int (.cons .int (.cons .int (.cons .int (.cons .int (.cons .int (.cons .int .nil))))))))
theorem shp_sps (L : List Spl) (n : Nat) : Shp (n + 2) (.list (sps L)) := .lst (ShpA.map (fun s => shp_sp s n) L)
def spOf (r : Int) : Spl := ⟨7, r % 3, 0, r / 3 % 9, r / 27 % 8, r / 216 % 8, r / 1728 % 8, r / 13824 % 8⟩
end Tp

namespace Tp
open PySem L2
def itD (l : List Int) : List D := l.map PyData.int
theorem itD_snoc (l : List Int) (a : Int) : itD (l ++ [a]) = itD l ++ [.int a] := List.map_append
theorem cut1_at {R : List Int} {i : Nat} {d : D} (h : (cutD (itD R) (some 1) none)[i]? = some d) : (∃ x, x ∈ R ∧ d = .int x) ∧ i + 1 < R.length := by
  rw [cut_from (by omega), List.getElem?_drop] at h
  unfold itD at h
  rw [List.getElem?_map] at h
  cases e : R[(1 : Int).toNat + i]? with
  | none => rw [e] at h; cases h
  | some t => rw [e] at h; exact ⟨⟨t, List.mem_of_getElem? e, (Option.some.inj h).symm⟩, Nat.lt_of_le_of_lt (Nat.le_of_eq (Nat.add_comm ..)) (List.getElem?_eq_some_iff.mp e).1⟩
end Tp

namespace Tp
open PySem L2
structure Dr where
  ff : Bool
  own : Int
  oth : Int
  sp : Int
  ls : List Lk
  cl : Bool
def drF (d : Dr) (q : Addr) : List (Str × It) := [("from_first", .da (.bool d.ff)), ("own", .da (.int d.own)), ("others", .da (.int d.oth)), ("spare", .da (.int d.sp)), ("locks", .rf q), ("closed", .da (.bool d.cl))]
def drG (C p dx q : Addr) (d : Dr) (rest : List (Addr × Nd)) : List (Addr × Nd) := (p, .ob C dx (drF d q)) :: (q, .ls ((lks d.ls).map It.da)) :: rest
def canSp (d : Dr) (a : Int) : Bool := !d.cl && (decide (1 ≤ a) && decide (a ≤ d.own + d.sp))
def lockAt (d : Dr) (p : Nat) : Option Lk := d.ls[p]?
def olkD : Option Lk → D
  | none => .none
  | some l => lkD l
def putL (d : Dr) (k a dl : Int) : Bool × Dr := if (!canSp d a || decide ((d.ls.length : Int) ≥ 8)) = true then (false, d) else (true, { d with own := d.own - a, ls := d.ls ++ [⟨k, a, dl, d.ff⟩] })
def paidL (d : Dr) (n : Nat) (s : Int) : Bool × Dr := match lockAt d n with
  | none => (false, d)
  | some l => if l.b = d.ff ∨ l.k ≠ keyF s then (false, d) else (true, { d with own := d.own + l.a, ls := d.ls.eraseIdx n })
def dropL (d : Dr) (n : Nat) : Bool × Dr := match lockAt d n with
  | none => (false, d)
  | some l => if l.b = d.ff then (false, d) else (true, { d with oth := d.oth + l.a, ls := d.ls.eraseIdx n })
def backL (d : Dr) (n : Nat) : Bool × Dr := match lockAt d n with
  | none => (false, d)
  | some l => if l.b ≠ d.ff then (false, d) else (true, { d with own := d.own + l.a, ls := d.ls.eraseIdx n })
def overL (d : Dr) (a : Int) : Bool × Dr := if canSp d a = true then (true, { d with own := d.own - a, oth := d.oth + a }) else (false, d)
def finL (d : Dr) : Bool × Dr := if (d.cl || !(lks d.ls).isEmpty) = true then (false, d) else (true, { d with cl := true })
def stepD (d : Dr) : Mv → Bool × Dr
  | .lock k a dl => putL d k a dl
  | .paid p s => paidL d p s
  | .dropped p => dropL d p
  | .back p => backL d p
  | .finish => finL d
  | .transfer a => overL d a
def mkD (n a b : Int) (L : List Lk) (c0 c1 : Int) : Dr := if (n + 1) % 2 = 1 then ⟨true, a, b, c0, L, false⟩ else ⟨false, b, a, c1, L, false⟩
def modD (d : Dr) : D := .tuple [.int d.own, .int d.oth, .tuple (lks d.ls), .bool d.cl]
def turnD (d : Dr) (m : Mv) : D := if (stepD d m).1 = true then modD (stepD d m).2 else .none
theorem cs_is (d : Dr) (a : Int) : canSp d a = !(d.cl || (decide (a < 1) || decide (d.own + d.sp < a))) := by
  unfold canSp
  have e1 : decide (1 ≤ a) = !decide (a < 1) := by
    by_cases h : a < 1
    · rw [decide_eq_true h, decide_eq_false (by omega)]; rfl
    · rw [decide_eq_false h, decide_eq_true (by omega)]; rfl
  have e2 : decide (a ≤ d.own + d.sp) = !decide (d.own + d.sp < a) := by
    by_cases h : d.own + d.sp < a
    · rw [decide_eq_true h, decide_eq_false (by omega)]; rfl
    · rw [decide_eq_false h, decide_eq_true (by omega)]; rfl
  rw [e1, e2]
  cases d.cl <;> simp
theorem ne_len (l : List D) : (!l.isEmpty) = decide ((l.length : Int) > 0) := by
  cases l with
  | nil => rfl
  | cons a l => rw [decide_eq_true (by rw [List.length_cons]; omega)]; rfl
theorem cut_erase {l : List D} {n : Nat} (h : n < l.length) : cutD l none (some (n : Int)) ++ cutD l (some ((n : Int) + 1)) none = l.eraseIdx n := by
  rw [List.eraseIdx_eq_take_drop_succ]
  have h1 : HT.sIx l.length l.length (some (n : Int)) = n := by
    rw [HT.sIx_nat]
    exact Nat.min_eq_left (by omega)
  have h2 : HT.sIx l.length 0 (some ((n : Int) + 1)) = n + 1 := by
    show HT.sIx l.length 0 (some ((n + 1 : Nat) : Int)) = n + 1
    rw [HT.sIx_nat]
    exact Nat.min_eq_left (by omega)
  unfold cutD
  rw [h1, h2, HT.sIx_none, HT.sIx_none, Nat.sub_zero, List.drop_zero, List.take_of_length_le (l := l.drop (n + 1)) (by rw [List.length_drop]; exact Nat.le_refl _)]
theorem cut_len {l : List D} {n : Nat} (h : n < l.length) (hz : l.length ≤ 1000) : (cutD l none (some (n : Int))).length + (cutD l (some ((n : Int) + 1)) none).length ≤ 100000 := by
  have e := congrArg List.length (cut_erase h)
  rw [List.length_append, List.length_eraseIdx_of_lt h] at e
  omega
theorem cut_ok {l : List D} {n : Nat} (h : n < l.length) : (¬ (HT.sIx l.length 0 none = 0 ∧ HT.sIx l.length l.length (some (n : Int)) = l.length)) ∧ ¬ (HT.sIx l.length 0 (some ((n : Int) + 1)) = 0 ∧ HT.sIx l.length l.length none = l.length) := by
  have h1 : HT.sIx l.length l.length (some (n : Int)) = n := by
    rw [HT.sIx_nat]
    exact Nat.min_eq_left (by omega)
  have h2 : HT.sIx l.length 0 (some ((n : Int) + 1)) = n + 1 := by
    show HT.sIx l.length 0 (some ((n + 1 : Nat) : Int)) = n + 1
    rw [HT.sIx_nat]
    exact Nat.min_eq_left (by omega)
  rw [h1, h2]
  exact ⟨fun z => by omega, fun z => by omega⟩
theorem turn_no {d : Dr} {m : Mv} (h : stepD d m = (false, d)) : turnD d m = .none := by
  unfold turnD
  rw [h]
  rfl
theorem turn_yes {d e : Dr} {m : Mv} (h : stepD d m = (true, e)) : turnD d m = modD e := by
  unfold turnD
  rw [h]
  rfl
theorem turn_isN (d : Dr) (m : Mv) : isN (turnD d m) = !(stepD d m).1 := by
  unfold turnD
  cases h : (stepD d m).1 with
  | true => rw [if_pos rfl]; rfl
  | false => rw [if_neg Bool.false_ne_true]; rfl
structure StOk (d e : Dr) : Prop where
  ff : e.ff = d.ff
  sp : e.sp = d.sp
  ln : e.ls.length ≤ d.ls.length + 1
theorem step_ok (d : Dr) (m : Mv) : StOk d (stepD d m).2 ∧ ((stepD d m).1 = false → (stepD d m).2 = d) := by
  have er : ∀ n, (d.ls.eraseIdx n).length ≤ d.ls.length + 1 := fun n => Nat.le_succ_of_le (List.length_eraseIdx_le ..)
  have z : StOk d d := ⟨rfl, rfl, Nat.le_succ _⟩
  cases m with
  | lock k a dl =>
    show StOk d (putL d k a dl).2 ∧ _
    unfold stepD putL
    dsimp only
    split
    · exact ⟨z, fun _ => rfl⟩
    · exact ⟨⟨rfl, rfl, by show (d.ls ++ [_]).length ≤ _; rw [List.length_append]; exact Nat.le_refl _⟩, fun h => by cases h⟩
  | paid n s =>
    show StOk d (paidL d n s).2 ∧ _
    unfold stepD paidL
    dsimp only
    split
    · exact ⟨z, fun _ => rfl⟩
    · split
      · exact ⟨z, fun _ => rfl⟩
      · exact ⟨⟨rfl, rfl, er n⟩, fun h => by cases h⟩
  | dropped n =>
    show StOk d (dropL d n).2 ∧ _
    unfold stepD dropL
    dsimp only
    split
    · exact ⟨z, fun _ => rfl⟩
    · split
      · exact ⟨z, fun _ => rfl⟩
      · exact ⟨⟨rfl, rfl, er n⟩, fun h => by cases h⟩
  | back n =>
    show StOk d (backL d n).2 ∧ _
    unfold stepD backL
    dsimp only
    split
    · exact ⟨z, fun _ => rfl⟩
    · split
      · exact ⟨z, fun _ => rfl⟩
      · exact ⟨⟨rfl, rfl, er n⟩, fun h => by cases h⟩
  | finish =>
    show StOk d (finL d).2 ∧ _
    unfold stepD finL
    dsimp only
    split
    · exact ⟨z, fun _ => rfl⟩
    · exact ⟨⟨rfl, rfl, Nat.le_succ _⟩, fun h => by cases h⟩
  | transfer a =>
    show StOk d (overL d a).2 ∧ _
    unfold stepD overL
    dsimp only
    split
    · exact ⟨⟨rfl, rfl, Nat.le_succ _⟩, fun h => by cases h⟩
    · exact ⟨z, fun _ => rfl⟩
theorem sm_lks (l : List Lk) (n : Nat) : SmA (n + 1) (lks l) := SmA.map (fun t => Sm.tup (ds := [.int t.k, .int t.a, .int t.dl, .bool t.b]) (show 4 ≤ 100000 by decide) (.cons .int (.cons .int (.cons .int (.cons .bl .nil))))) l
theorem sm_mod {d : Dr} (h : d.ls.length ≤ 1000) : Sm 5 (modD d) := Sm.tup (ds := [.int d.own, .int d.oth, .tuple (lks d.ls), .bool d.cl]) (show 4 ≤ 100000 by decide) (.cons .int (.cons .int (.cons (.tup (by rw [lks_len]; omega) (sm_lks _ _)) (.cons .bl .nil))))
theorem put_no {d : Dr} {k a dl : Int} (h : (d.cl || (decide (a < 1) || decide (d.own + d.sp < a))) = true) : stepD d (.lock k a dl) = (false, d) := by
  show putL d k a dl = _
  unfold putL
  rw [cs_is, h]
  rfl
theorem put_no2 {d : Dr} {k a dl : Int} (h : decide ((d.ls.length : Int) ≥ 8) = true) : stepD d (.lock k a dl) = (false, d) := by
  show putL d k a dl = _
  unfold putL
  rw [h, Bool.or_true]
  rfl
theorem put_yes {d : Dr} {k a dl : Int} (h : (d.cl || (decide (a < 1) || decide (d.own + d.sp < a))) = false) (h2 : decide ((d.ls.length : Int) ≥ 8) = false) : stepD d (.lock k a dl) = (true, { d with own := d.own - a, ls := d.ls ++ [⟨k, a, dl, d.ff⟩] }) := by
  show putL d k a dl = _
  unfold putL
  rw [cs_is, h, h2]
  rfl
theorem over_no {d : Dr} {a : Int} (h : (d.cl || (decide (a < 1) || decide (d.own + d.sp < a))) = true) : stepD d (.transfer a) = (false, d) := by
  show overL d a = _
  unfold overL
  rw [cs_is, h]
  rfl
theorem over_yes {d : Dr} {a : Int} (h : (d.cl || (decide (a < 1) || decide (d.own + d.sp < a))) = false) : stepD d (.transfer a) = (true, { d with own := d.own - a, oth := d.oth + a }) := by
  show overL d a = _
  unfold overL
  rw [cs_is, h]
  rfl
theorem fin_no {d : Dr} (h : (d.cl || decide (((lks d.ls).length : Int) > 0)) = true) : stepD d .finish = (false, d) := by
  show finL d = _
  unfold finL
  rw [ne_len, h]
  rfl
theorem fin_yes {d : Dr} (h : (d.cl || decide (((lks d.ls).length : Int) > 0)) = false) : stepD d .finish = (true, { d with cl := true }) := by
  show finL d = _
  unfold finL
  rw [ne_len, h]
  rfl
theorem lk_none {d : Dr} {n : Nat} (h : decide ((n : Int) ≥ ((lks d.ls).length : Int)) = true) : lockAt d n = none := by
  have h := of_decide_eq_true h
  rw [lks_len] at h
  exact List.getElem?_eq_none (by omega)
theorem qo_is {Q : Rs → List (Addr × Nd) → Prop} {a b : Rs} {g h : List (Addr × Nd)} (x : Q a g) (e : b = a) (e2 : h = g) : Q b h := e ▸ e2 ▸ x
theorem lks_snoc (l : List Lk) (a : Lk) : lks (l ++ [a]) = lks l ++ [lkD a] := List.map_append
theorem lks_erase (l : List Lk) (n : Nat) : lks (l.eraseIdx n) = (lks l).eraseIdx n := erase_map lkD l n
theorem lk_get {d : Dr} {n : Nat} (h : (decide (0 ≤ (n : Int)) && decide ((n : Int) < ((lks d.ls).length : Int))) = true) : ∃ l, lockAt d n = some l ∧ atI (lks d.ls) (n : Int) = some (lkD l) := by
  rw [Bool.and_eq_true, lks_len] at h
  have h2 := of_decide_eq_true h.2
  have hn : n < d.ls.length := by omega
  refine ⟨d.ls[n], List.getElem?_eq_getElem hn, atI_of (by omega) ?_⟩
  unfold lks
  rw [Int.toNat_natCast, List.getElem?_map, List.getElem?_eq_getElem hn]
  rfl
theorem lk_no {d : Dr} {n : Nat} (h : (decide (0 ≤ (n : Int)) && decide ((n : Int) < ((lks d.ls).length : Int))) = false) : lockAt d n = none := by
  unfold lockAt
  refine List.getElem?_eq_none ?_
  rw [lks_len, Bool.and_eq_false_iff] at h
  rcases h with h | h
  · have := of_decide_eq_false h; omega
  · have := of_decide_eq_false h; omega
theorem lk_ix {d : Dr} {n : Nat} {l : Lk} (h : lockAt d n = some l) : seqIndex? (n : Int) (lks d.ls).length = some n ∧ n < d.ls.length := by
  have hn : n < d.ls.length := (List.getElem?_eq_some_iff.mp h).1
  refine ⟨?_, hn⟩
  rw [lks_len]
  have h1 : ¬ ((n : Int) < 0) := by omega
  simp [seqIndex?, h1, hn]
end Tp

namespace Tp
open PySem L2
structure Sta where
  c : Int
  n : Int
  a : Int
  b : Int
  L : List Lk
  f : Bool
def staD (s : Sta) : D := stD s.c s.n s.a s.b s.L s.f
def osD : Option Sta → D
  | none => .none
  | some s => staD s
def runL : Dr → List Mv → Option Dr
  | d, [] => some d
  | d, m :: l => if (stepD d m).1 = true then runL (stepD d m).2 l else none
def asD (c : D) (n : Int) (d : Dr) : D := if d.ff = true then .tuple [c, .int n, .int d.own, .int d.oth, .tuple (lks d.ls), .bool d.cl] else .tuple [c, .int n, .int d.oth, .int d.own, .tuple (lks d.ls), .bool d.cl]
def asS (c n : Int) (d : Dr) : Sta := if d.ff = true then ⟨c, n, d.own, d.oth, d.ls, d.cl⟩ else ⟨c, n, d.oth, d.own, d.ls, d.cl⟩
theorem asD_is (c n : Int) (d : Dr) : asD (.int c) n d = staD (asS c n d) := by
  unfold asD asS
  split <;> rfl
def nextS (s : Sta) (ms : List Mv) (x y : Int) : Option Sta := if s.f = true then none else (runL (mkD s.n s.a s.b s.L x y) ms).map (asS s.c (s.n + 1))
def mvs (l : List Mv) : List D := l.map mvD
theorem mvs_len (l : List Mv) : (mvs l).length = l.length := List.length_map _
theorem mvs_at {l : List Mv} {i : Nat} {d : D} (h : (mvs l)[i]? = some d) : ∃ m, l[i]? = some m ∧ d = mvD m := by
  unfold mvs at h
  rw [List.getElem?_map] at h
  cases e : l[i]? with
  | none => rw [e] at h; cases h
  | some t => rw [e] at h; exact ⟨t, rfl, (Option.some.inj h).symm⟩
theorem runL_app : ∀ (a b : List Mv) (d : Dr), runL d (a ++ b) = (runL d a).bind fun e => runL e b
  | [], b, d => rfl
  | m :: a, b, d => by
    show (if (stepD d m).1 = true then runL (stepD d m).2 (a ++ b) else none) = (if (stepD d m).1 = true then runL (stepD d m).2 a else none).bind _
    split
    · exact runL_app a b _
    · rfl
theorem run_next {d0 d e : Dr} {ms : List Mv} {i : Nat} {m : Mv} (h : runL d0 (ms.take i) = some d) (hm : ms[i]? = some m) (hs : stepD d m = (true, e)) : runL d0 (ms.take (i + 1)) = some e := by
  rw [List.take_succ, hm, runL_app, h]
  show (if (stepD d m).1 = true then some (stepD d m).2 else none) = _
  rw [hs]; rfl
theorem run_fail {d0 d e : Dr} {ms : List Mv} {i : Nat} {m : Mv} (h : runL d0 (ms.take i) = some d) (hm : ms[i]? = some m) (hs : stepD d m = (false, e)) : runL d0 ms = none := by
  obtain ⟨hi, hg⟩ := List.getElem?_eq_some_iff.mp hm
  have e1 : ms = ms.take i ++ m :: ms.drop (i + 1) := by
    have := (List.take_append_drop i ms).symm
    rwa [List.drop_eq_getElem_cons hi, hg] at this
  rw [e1, runL_app, h]
  show (if (stepD d m).1 = true then _ else none) = _
  rw [hs]; rfl
theorem run_end {d0 d : Dr} {ms : List Mv} (h : runL d0 (ms.take (mvs ms).length) = some d) : runL d0 ms = some d := by
  rw [mvs_len, List.take_length] at h
  exact h
theorem lks_add (ls : List Lk) (k a dl : Int) (b : Bool) : lks ls ++ [.tuple [.int k, .int a, .int dl, .bool b]] = lks (ls ++ [⟨k, a, dl, b⟩]) := (lks_snoc ls ⟨k, a, dl, b⟩).symm
theorem step_le {d : Dr} (m : Mv) (h : d.ls.length ≤ 9) : (stepD d m).2.ls.length ≤ 9 := by
  have er : ∀ n, (d.ls.eraseIdx n).length ≤ 9 := fun n => Nat.le_trans (List.length_eraseIdx_le ..) h
  cases m with
  | lock k a dl =>
    unfold stepD putL
    dsimp only
    split
    · exact h
    · rename_i c
      show (d.ls ++ [_]).length ≤ 9
      rw [List.length_append]
      simp only [Bool.or_eq_true, decide_eq_true_eq, not_or] at c
      show d.ls.length + 1 ≤ 9
      omega
  | paid n s =>
    unfold stepD paidL
    dsimp only
    split
    · exact h
    · split
      · exact h
      · exact er n
  | dropped n =>
    unfold stepD dropL
    dsimp only
    split
    · exact h
    · split
      · exact h
      · exact er n
  | back n =>
    unfold stepD backL
    dsimp only
    split
    · exact h
    · split
      · exact h
      · exact er n
  | finish =>
    unfold stepD finL
    dsimp only
    split <;> exact h
  | transfer a =>
    unfold stepD overL
    dsimp only
    split <;> exact h
theorem run_le : ∀ {ms : List Mv} {d e : Dr}, runL d ms = some e → d.ls.length ≤ 9 → e.ls.length ≤ 9
  | [], d, e, h, l => by cases h; exact l
  | m :: ms, d, e, h, l => by
    have h : (if (stepD d m).1 = true then runL (stepD d m).2 ms else none) = some e := h
    split at h
    · exact run_le h (step_le m l)
    · cases h
theorem mkD_ls (n a b : Int) (L : List Lk) (x y : Int) : (mkD n a b L x y).ls = L := by unfold mkD; split <;> rfl
theorem asS_L (c n : Int) (d : Dr) : (asS c n d).L = d.ls := by unfold asS; split <;> rfl
theorem next_le {s t : Sta} {ms : List Mv} {x y : Int} (h : nextS s ms x y = some t) (l : s.L.length ≤ 9) : t.L.length ≤ 9 := by
  unfold nextS at h
  split at h
  · cases h
  · cases e : runL (mkD s.n s.a s.b s.L x y) ms with
    | none => rw [e] at h; cases h
    | some d =>
      rw [e] at h
      cases h
      rw [asS_L]
      exact run_le e (by rw [mkD_ls]; exact l)
theorem mine0 (b : Bool) : (b && decide ((0 : Int) = 0) || !b && decide ((0 : Int) = 1)) = b := by cases b <;> rfl
theorem mine1 (b : Bool) : (b && decide ((1 : Int) = 0) || !b && decide ((1 : Int) = 1)) = !b := by cases b <;> rfl
theorem paid_yes {d : Dr} {n : Nat} {s : Int} {l : Lk} (h : lockAt d n = some l) (hb : l.b ≠ d.ff) (hk : l.k = keyF s) : stepD d (.paid n s) = (true, { d with own := d.own + l.a, ls := d.ls.eraseIdx n }) := by
  show paidL d n s = _
  unfold paidL
  rw [h]
  exact if_neg fun z => z.elim hb fun y => y hk
theorem paid_no {d : Dr} {n : Nat} {s : Int} {l : Lk} (h : lockAt d n = some l) (hb : l.b = d.ff ∨ l.k ≠ keyF s) : stepD d (.paid n s) = (false, d) := by
  show paidL d n s = _
  unfold paidL
  rw [h]
  exact if_pos hb
theorem paid_none {d : Dr} {n : Nat} {s : Int} (h : lockAt d n = none) : stepD d (.paid n s) = (false, d) := by
  show paidL d n s = _
  unfold paidL
  rw [h]
theorem drop_yes {d : Dr} {n : Nat} {l : Lk} (h : lockAt d n = some l) (hb : l.b ≠ d.ff) : stepD d (.dropped n) = (true, { d with oth := d.oth + l.a, ls := d.ls.eraseIdx n }) := by
  show dropL d n = _
  unfold dropL
  rw [h]
  exact if_neg hb
theorem drop_no {d : Dr} {n : Nat} {l : Lk} (h : lockAt d n = some l) (hb : l.b = d.ff) : stepD d (.dropped n) = (false, d) := by
  show dropL d n = _
  unfold dropL
  rw [h]
  exact if_pos hb
theorem drop_none {d : Dr} {n : Nat} (h : lockAt d n = none) : stepD d (.dropped n) = (false, d) := by
  show dropL d n = _
  unfold dropL
  rw [h]
theorem back_yes {d : Dr} {n : Nat} {l : Lk} (h : lockAt d n = some l) (hb : l.b = d.ff) : stepD d (.back n) = (true, { d with own := d.own + l.a, ls := d.ls.eraseIdx n }) := by
  show backL d n = _
  unfold backL
  rw [h]
  exact if_neg fun z => z hb
theorem back_no {d : Dr} {n : Nat} {l : Lk} (h : lockAt d n = some l) (hb : l.b ≠ d.ff) : stepD d (.back n) = (false, d) := by
  show backL d n = _
  unfold backL
  rw [h]
  exact if_pos hb
theorem back_none {d : Dr} {n : Nat} (h : lockAt d n = none) : stepD d (.back n) = (false, d) := by
  show backL d n = _
  unfold backL
  rw [h]
def manyM (n : Int) : Int := ([1, 1, 2, 0, 3, 1, 2, 16] : List Int).getD (n % 8).toNat 0
theorem manyM_in (i : Nat) : 0 ≤ ([1, 1, 2, 0, 3, 1, 2, 16] : List Int).getD i 0 ∧ ([1, 1, 2, 0, 3, 1, 2, 16] : List Int).getD i 0 ≤ 16 := by
  match i with
  | 0 => decide
  | 1 => decide
  | 2 => decide
  | 3 => decide
  | 4 => decide
  | 5 => decide
  | 6 => decide
  | 7 => decide
  | n + 8 => simp
def movesOf (n : Int) : List Mv := (List.range (manyM n).toNat).map fun (j : Nat) => mvOf (n / (8 + 37 * (j : Int)) + (j : Int) * 3)
theorem movesOf_len (n : Int) : (movesOf n).length ≤ 16 := by
  unfold movesOf manyM
  rw [List.length_map, List.length_range]
  have := manyM_in (n % 8).toNat
  omega
theorem sm_sta {s : Sta} (h : s.L.length ≤ 1000) : Sm 5 (staD s) := Sm.tup (ds := [.int s.c, .int s.n, .int s.a, .int s.b, .tuple (lks s.L), .bool s.f]) (show 6 ≤ 100000 by decide) (.cons .int (.cons .int (.cons .int (.cons .int (.cons (.tup (by rw [lks_len]; omega) (sm_lks _ _)) (.cons .bl .nil))))))
theorem sm_os {o : Option Sta} (h : ∀ s, o = some s → s.L.length ≤ 1000) : Sm 5 (osD o) := by
  cases o with
  | none => exact .non
  | some s => exact sm_sta (h s rfl)
end Tp

namespace Tp
open PySem L2
def fldD (v : Vt) : D := .tuple [opD v.op, .int v.mo, vsD v, .int v.spl, .int v.least, v.pub, v.since]
theorem shp_op (o : Op) (n : Nat) : Shp (n + 1) (opD o) := .tup (.cons .int (.cons .int (.cons .int (.cons .int (.cons .int (.cons .int (.cons .int .nil)))))))
theorem shp_sta (s : Sta) (n : Nat) : Shp (n + 3) (staD s) := .tup (.cons .int (.cons .int (.cons .int (.cons .int (.cons (.tup (shp_lks _ _)) (.cons .bl .nil))))))
theorem shp_os (o : Option Sta) (n : Nat) : Shp (n + 3) (osD o) := by
  cases o with
  | none => exact .non
  | some s => exact shp_sta s n
theorem isN_os (o : Option Sta) : isN (osD o) = !o.isSome := by cases o <;> rfl
/-- a vault: its state that is published and the height, typed -/
structure Vv where
  op : Op
  mo : Int
  a : Int
  b : Int
  c : Int
  d : Int
  spl : Int
  least : Int
  pub : Option Sta
  since : Int
def vvE (v : Vv) : Vt := ⟨v.op, v.mo, v.a, v.b, v.c, v.d, v.spl, v.least, osD v.pub, if v.pub.isSome = true then .int v.since else .none⟩
/-- a vault among the ghosts -/
structure Vn where
  n : Int
  a : Addr
  d : Addr
  v : Vv
structure Bk where
  pu : List (Int × Int)
  vs : List Vn
  rc : List (Int × Int)
  en : List Int
  dn : List (Int × Int)
  ht : Int
  bu : Int
structure Ba where
  p : Addr
  dx : Addr
  a1 : Addr
  a2 : Addr
  a3 : Addr
  a4 : Addr
  a5 : Addr
def pr2 (l : List (Int × Int)) : List D := l.map fun x => .tuple [.int x.1, .int x.2]
def bkF (A : Ba) (b : Bk) : List (Str × It) := [("purses", .rf A.a1), ("vaults", .rf A.a2), ("receipts", .rf A.a3), ("ended", .rf A.a4), ("done", .rf A.a5), ("height", .da (.int b.ht)), ("burnt", .da (.int b.bu))]
def vsK (vs : List Vn) : List (Key × It) := vs.map fun x => (Sum.inl x.n, It.rf x.a)
def vaN (C : Addr) (vs : List Vn) : List (Addr × Nd) := vs.map fun x => (x.a, Nd.ob C x.d (vtF (vvE x.v)))
def bkG (C CV : Addr) (A : Ba) (b : Bk) : List (Addr × Nd) := (A.p, .ob C A.dx (bkF A b)) :: (A.a1, .dc (dcD (rcv b.pu))) :: (A.a2, .dc (vsK b.vs)) :: (A.a3, .dc (dcD (rcv b.rc))) :: (A.a4, .ls ((itD b.en).map It.da)) :: (A.a5, .ls ((pr2 b.dn).map It.da)) :: vaN CV b.vs
theorem lk_vs (n : Int) : ∀ vs : List Vn, lkI (vsK vs) (Sum.inl n) = (vs.find? fun x => decide (x.n = n)).map fun x => It.rf x.a
  | [] => rfl
  | x :: vs => by
    have ih := lk_vs n vs
    unfold vsK at ih ⊢
    rw [List.map_cons, List.find?_cons]
    unfold lkI
    by_cases e : x.n = n
    · rw [if_pos (congrArg Sum.inl e), decide_eq_true e]; rfl
    · rw [if_neg (fun z => e (Sum.inl.inj z)), decide_eq_false e]; exact ih
def vAt (b : Bk) (n : Int) : Option Vn := b.vs.find? fun x => decide (x.n = n)
theorem vAt_mem {b : Bk} {n : Int} {x : Vn} (h : vAt b n = some x) : x ∈ b.vs ∧ x.n = n := ⟨List.mem_of_find?_eq_some h, of_decide_eq_true (by have := List.find?_some h; exact this)⟩
theorem vn_in {C CV : Addr} {A : Ba} {b : Bk} {x : Vn} (h : x ∈ b.vs) : (x.a, Nd.ob CV x.d (vtF (vvE x.v))) ∈ bkG C CV A b := List.mem_cons_of_mem _ (List.mem_cons_of_mem _ (List.mem_cons_of_mem _ (List.mem_cons_of_mem _ (List.mem_cons_of_mem _ (List.mem_cons_of_mem _ (List.mem_map.mpr ⟨x, h, rfl⟩))))))
theorem vk_some {b : Bk} {n : Int} {x : Vn} (h : vAt b n = some x) : lkI (vsK b.vs) (Sum.inl n) = some (.rf x.a) := by rw [lk_vs]; unfold vAt at h; rw [h]; rfl
theorem vk_none {b : Bk} {n : Int} (h : vAt b n = none) : lkI (vsK b.vs) (Sum.inl n) = none := by rw [lk_vs]; unfold vAt at h; rw [h]; rfl
theorem shp_ha (l : List Int) (n : Nat) : Shp (n + 1) (.tuple (l.map PyData.int)) := .tup (ShpA.map (fun _ => .int) l)
theorem shp_it (l : List Int) (n : Nat) : Shp (n + 1) (.list (itD l)) := .lst (ShpA.map (fun _ => .int) l)
theorem shp_pr (l : List (Int × Int)) (n : Nat) : Shp (n + 2) (.list (pr2 l)) := .lst (ShpA.map (fun _ => .tup (.cons .int (.cons .int .nil))) l)
def freeA (v : Vv) (t : Sta) : Int := t.a + v.a - v.b
def freeB (v : Vv) (t : Sta) : Int := t.b + v.c - v.d
def fitV (v : Vv) (t : Sta) : Bool := decide (t.a + t.b + (t.L.map (·.a)).sum = v.op.o3 + v.op.o4) && (decide (0 ≤ freeA v t) && decide (0 ≤ freeB v t))
def shaV (v : Vv) (t : Sta) (m : List (Int × Int)) : Int := if v.mo < t.a + (shr m t.L).1 + v.a - v.b then v.mo else t.a + (shr m t.L).1 + v.a - v.b
/-- acts, things -/
inductive Ac where
  | pay (to am : Int)
  | opn (o : Op)
  | publ (t : Sta)
  | sett (n : Int)
  | splc (s : Spl)
  | revl (x : Int)
def acD : Ac → D
  | .pay to am => .tuple [.str "pay", .int to, .int am]
  | .opn o => .tuple [.str "open", opD o]
  | .publ t => .tuple [.str "publish", staD t]
  | .sett n => .tuple [.str "settle", .int n]
  | .splc s => .tuple [.str "splice", slD s]
  | .revl x => .tuple [.str "reveal", .int x]
structure Th where
  ac : Ac
  hs : List Int
  py : Int
  fe : Int
  tg : Int
def haD (l : List Int) : D := .tuple (l.map PyData.int)
def thD (t : Th) : D := .tuple [acD t.ac, haD t.hs, .int t.py, .int t.fe, .int t.tg]
def addP (m : List (Int × Int)) (x : Int × Int) : List (Int × Int) := putI m x.1 ((look m x.1).getD 0 + x.2)
/-- short lists -/
def OkB (b : Bk) : Prop := ∀ x ∈ b.vs, ∀ u, x.v.pub = some u → u.L.length ≤ 1000
def OkA : Ac → Prop
  | .publ t => t.L.length ≤ 1000
  | _ => True
def partsM (b : Bk) (t : Th) : List (Int × Int) := (t.py, t.fe) :: match t.ac with
  | .pay _ am => [(t.py, am)]
  | .opn o => [(o.o1, o.o3), (o.o2, o.o4)]
  | .splc s => match vAt b s.s0 with
    | none => []
    | some x => [(x.v.op.o1, s.s4), (x.v.op.o2, s.s6)]
  | _ => []
def takM (b : Bk) (t : Th) : List (Int × Int) := (partsM b t).foldl addP []
def inT (l : List Int) (x : Int) : Bool := (l.map PyData.int).any fun z => PyData.eqv z (.int x)
def handsB (l : List Int) (x y : Int) : Bool := inT l x && inT l y
def wif (k : Bool) (s : Str) : List D := if k = true then [.str s] else []
theorem wif_len (k : Bool) (s : Str) : (wif k s).length ≤ 1 := by unfold wif; split <;> simp
def opnR (b : Bk) (o : Op) (h : List Int) : List D := [] ++ wif (decide (o.o1 = o.o2)) "one party" ++ wif (decide (o.o6 < b.ht)) "late" ++ wif (!handsB h o.o1 o.o2) "hands" ++ wif (lkI (vsK b.vs) (Sum.inl o.o0)).isSome "stands" ++ wif (b.en.any fun x => decide (x = o.o0)) "gone"
def vF (v : Vv) : Ft := ⟨v.a, v.b, v.c, v.d, 0, []⟩
def suW (f : Ft) (s : Spl) (i : Nat) : Int := ([f.a, f.b, f.c, f.d] : List Int).getD (i : Int).toNat 0 + ([s.s0, s.s1, s.s2, s.s3, s.s4, s.s5, s.s6, s.s7] : List Int).getD (4 + (i : Int)).toNat 0
def suL (f : Ft) (s : Spl) : List Int := [f.a + s.s4, f.b + s.s5, f.c + s.s6, f.d + s.s7]
def big (f : Ft) (s : Spl) : Int := ([f.b + s.s5, f.c + s.s6, f.d + s.s7] : List Int).foldl (fun m a => if a > m then a else m) (f.a + s.s4)
theorem big_is (f : Ft) (s : Spl) : big f s ∈ suL f s ∧ ∀ x ∈ suL f s, x ≤ big f s := mx_go _ _
def splR (b : Bk) (v : Vv) (s : Spl) (h : List Int) : List D := [] ++ wif (!handsB h v.op.o1 v.op.o2) "hands" ++ wif (!decide (s.s1 = v.spl)) "index" ++ wif (decide (s.s3 < b.ht)) "late" ++ wif (decide (v.mo + s.s4 + s.s6 < s.s5 + s.s7)) "not enough" ++ wif (decide (1000000000000000 < big (vF v) s)) "too much" ++ wif (!isN (osD v.pub)) "published"
def opst (o : Op) : D := staD ⟨o.o0, 0, o.o3, o.o4, [], false⟩
def pubR0 (v : Vv) (t : Sta) (h : List Int) : List D := [] ++ wif (!PyData.eqv (staD t) (opst v.op) && !handsB h v.op.o1 v.op.o2) "hands" ++ wif (decide (t.n < v.least)) "below least" ++ wif (!fitV v t) "does not fit" ++ wif (t.f && decide (0 < ((lks t.L).length : Int))) "final with locks"
def pubR (b : Bk) (v : Vv) (t : Sta) (h : List Int) : List D := match v.pub with
  | none => pubR0 v t h
  | some u => pubR0 v t h ++ wif (decide (t.n ≤ u.n)) "not newer" ++ wif (decide (v.since + v.op.o5 < b.ht)) "over"
def decB (b : Bk) (l : Lk) : Bool := wasOp b.rc l.k l.dl || decide (l.dl < b.ht)
def setR (b : Bk) (v : Vv) : List D := match v.pub with
  | none => [.str "not published"]
  | some u => [] ++ wif (decide (b.ht ≤ v.since + v.op.o5)) "runs" ++ wif (!(u.L.all fun l => decB b l)) "undecided"
def chanR (b : Bk) (h : List Int) : Ac → List D
  | .publ t => match vAt b t.c with
    | none => [.str "no channel"]
    | some x => pubR b x.v t h
  | .sett n => match vAt b n with
    | none => [.str "no channel"]
    | some x => setR b x.v
  | .splc s => match vAt b s.s0 with
    | none => [.str "no channel"]
    | some x => splR b x.v s h
  | _ => []
def isCh : Ac → Bool
  | .publ _ => true
  | .sett _ => true
  | .splc _ => true
  | _ => false
def actR (b : Bk) (h : List Int) : Ac → List D
  | .opn o => opnR b o h
  | .revl x => if (lkK (rcv b.rc) (Sum.inl (keyF x))).isSome = true then [.str "shown"] else []
  | .pay _ _ => []
  | a => chanR b h a
theorem actR_len (b : Bk) (h : List Int) (a : Ac) : (actR b h a).length ≤ 10 := by
  have w := wif_len
  cases a with
  | pay _ _ => exact Nat.zero_le _
  | opn o => simp only [actR, opnR, List.length_append, List.length_nil]; have := w (decide (o.o1 = o.o2)) "one party"; have := w (decide (o.o6 < b.ht)) "late"; have := w (!handsB h o.o1 o.o2) "hands"; have := w (lkI (vsK b.vs) (Sum.inl o.o0)).isSome "stands"; have := w (b.en.any fun x => decide (x = o.o0)) "gone"; omega
  | revl x => simp only [actR]; split <;> simp
  | publ t =>
    simp only [actR, chanR]
    split
    · simp
    · unfold pubR
      split
      · simp only [pubR0, List.length_append, List.length_nil]; refine Nat.le_trans (Nat.add_le_add (Nat.add_le_add (Nat.add_le_add (Nat.add_le_add (Nat.le_refl 0) (w _ _)) (w _ _)) (w _ _)) (w _ _)) (by decide)
      · simp only [pubR0, List.length_append, List.length_nil]; refine Nat.le_trans (Nat.add_le_add (Nat.add_le_add (Nat.add_le_add (Nat.add_le_add (Nat.add_le_add (Nat.add_le_add (Nat.le_refl 0) (w _ _)) (w _ _)) (w _ _)) (w _ _)) (w _ _)) (w _ _)) (by decide)
  | sett n =>
    simp only [actR, chanR]
    split
    · simp
    · unfold setR
      split
      · simp
      · simp only [List.length_append, List.length_nil]; refine Nat.le_trans (Nat.add_le_add (Nat.add_le_add (Nat.le_refl 0) (w _ _)) (w _ _)) (by decide)
  | splc s =>
    simp only [actR, chanR]
    split
    · simp
    · simp only [splR, List.length_append, List.length_nil]; refine Nat.le_trans (Nat.add_le_add (Nat.add_le_add (Nat.add_le_add (Nat.add_le_add (Nat.add_le_add (Nat.add_le_add (Nat.le_refl 0) (w _ _)) (w _ _)) (w _ _)) (w _ _)) (w _ _)) (w _ _)) (by decide)
def poorB (b : Bk) (m : List (Int × Int)) (k : Int) : Bool := decide ((look b.pu k).getD 0 < (look m k).getD 0)
def reaR (b : Bk) (t : Th) : List D := [] ++ wif ((pr2 b.dn).any fun z => PyData.eqv z (.tuple [.int t.py, .int t.tg])) "done" ++ actR b t.hs t.ac ++ wif ((takM b t).any fun x => poorB b (takM b t) x.1) "purse"
theorem lkI_dc (k : Key) : ∀ kvd : List (Key × D), lkI (dcD kvd) k = (lkK kvd k).map It.da
  | [] => rfl
  | (q, d) :: r => by
    have ih := lkI_dc k r
    unfold dcD at ih ⊢
    rw [List.map_cons]
    unfold lkI lkK
    by_cases e : q = k
    · rw [if_pos e, if_pos e]; rfl
    · rw [if_neg e, if_neg e]; exact ih
theorem gd_is (m : List (Int × Int)) (k : Int) : lkI (dcD (rcv m)) (Sum.inl k) = (look m k).map fun x => It.da (.int x) := by
  rw [lkI_dc, lk_rcv]
  cases look m k <;> rfl
theorem gd_no {m : List (Int × Int)} {k : Int} (h : lkI (dcD (rcv m)) (Sum.inl k) = none) : PyData.int ((look m k).getD 0) = .int 0 := by
  rw [gd_is] at h
  cases e : look m k with
  | none => rfl
  | some x => rw [e] at h; cases h
theorem gd_yes {m : List (Int × Int)} {k : Int} (t : It) (h : lkI (dcD (rcv m)) (Sum.inl k) = some t) : t = .da (.int ((look m k).getD 0)) := by
  rw [gd_is] at h
  cases e : look m k with
  | none => rw [e] at h; cases h
  | some x => rw [e] at h; cases h; rfl
theorem gd_mem {m : List (Int × Int)} {x : Int × Int} (h : x ∈ m) : lkI (dcD (rcv m)) (Sum.inl x.1) = some (.da (.int ((look m x.1).getD 0))) := by
  cases e : lkI (dcD (rcv m)) (Sum.inl x.1) with
  | some t => rw [gd_yes t e]
  | none =>
    rw [gd_is] at e
    cases e2 : look m x.1 with
    | some y => rw [e2] at e; cases e
    | none =>
      unfold look at e2
      cases e3 : m.find? fun y => decide (y.1 = x.1) with
      | some y => rw [e3] at e2; cases e2
      | none => exact absurd (decide_eq_true rfl) (List.find?_eq_none.mp e3 x h)
theorem pt_gd (m : List (Int × Int)) (k v : Int) : putI2 (dcD (rcv m)) (Sum.inl k) (.da (.int v)) = dcD (rcv (putI m k v)) := by rw [dcD_put, putD_rcv]
theorem rc_mem {m : List (Int × Int)} {u : Key × It} (h : u ∈ dcD (rcv m)) : ∃ x ∈ m, u = (Sum.inl x.1, .da (.int x.2)) := by
  unfold dcD rcv at h
  rw [List.map_map] at h
  obtain ⟨x, hx, e⟩ := List.mem_map.mp h
  exact ⟨x, hx, e.symm⟩
def fdP (b : Bk) (m : List (Int × Int)) : Key × It → D := fun u => match u.1 with
  | .inl k => .bool (poorB b m k)
  | _ => .none
theorem fdP_all (b : Bk) (m : List (Int × Int)) : PyData.list (((dcD (rcv m)).filter fun _ => true).map (fdP b m)) = .list (m.map fun x => .bool (poorB b m x.1)) := by
  rw [List.filter_eq_self.mpr (fun _ _ => rfl)]
  unfold dcD rcv
  rw [List.map_map, List.map_map]
  rfl
theorem len_ifl {ds : List D} {d : D} {k : Bool} {n : Nat} (h : ds.length ≤ n) : (ds ++ if k = true then [d] else []).length ≤ n + 1 := by
  rw [List.length_append]
  have : (if k = true then [d] else []).length ≤ 1 := by split <;> simp
  omega
theorem len_ap {ds es : List D} {n m : Nat} (h : ds.length ≤ n) (h2 : es.length ≤ m) : (ds ++ es).length ≤ n + m := by rw [List.length_append]; omega
theorem take_fold {α β : Type} {f : β → α → β} {s : β} {L : List α} {i : Nat} {a : α} (h : L[i]? = some a) : (L.take (i + 1)).foldl f s = f ((L.take i).foldl f s) a := by
  rw [List.take_succ, h, List.foldl_append]; rfl
theorem pr2_at {L : List (Int × Int)} {i : Nat} {d : D} (h : (pr2 L)[i]? = some d) : ∃ x, L[i]? = some x ∧ d = .tuple [.int x.1, .int x.2] := by
  unfold pr2 at h
  rw [List.getElem?_map] at h
  cases e : L[i]? with
  | none => rw [e] at h; cases h
  | some t => rw [e] at h; exact ⟨t, rfl, (Option.some.inj h).symm⟩
theorem pr2_pair {L : List (Int × Int)} {i : Nat} {d : D} (h : (pr2 L)[i]? = some d) : ∃ a b, d = PyData.tuple [a, b] := by
  obtain ⟨x, _, e⟩ := pr2_at h
  exact ⟨_, _, e⟩
theorem addP_len (m : List (Int × Int)) (x : Int × Int) : (addP m x).length ≤ m.length + 1 := putI_len _ _ _
theorem fold_len : ∀ (L : List (Int × Int)) (m : List (Int × Int)), (L.foldl addP m).length ≤ m.length + L.length
  | [], m => Nat.le_refl _
  | x :: L, m => by
    have h1 := fold_len L (addP m x)
    have h2 := addP_len m x
    show (L.foldl addP (addP m x)).length ≤ m.length + (L.length + 1)
    omega
theorem dc_len (m : List (Int × Int)) : (dcD (rcv m)).length = m.length := by unfold dcD rcv; rw [List.length_map, List.length_map]
theorem parts_s0 {b : Bk} {s : Spl} {hs : List Int} {py fe tg : Int} (hv : vAt b s.s0 = none) : partsM b ⟨.splc s, hs, py, fe, tg⟩ = [(py, fe)] := by simp only [partsM, hv]
theorem parts_s1 {b : Bk} {s : Spl} {x : Vn} {hs : List Int} {py fe tg : Int} (hv : vAt b s.s0 = some x) : partsM b ⟨.splc s, hs, py, fe, tg⟩ = [(py, fe), (x.v.op.o1, s.s4), (x.v.op.o2, s.s6)] := by simp only [partsM, hv]
theorem parts_len (b : Bk) (t : Th) : (partsM b t).length ≤ 3 := by
  unfold partsM
  rcases t with ⟨ac, hs, py, fe, tg⟩
  cases ac with
  | splc s => dsimp only; split <;> simp
  | _ => simp
theorem tak_len (b : Bk) (t : Th) : (takM b t).length ≤ 3 := by
  have h1 := fold_len (partsM b t) []
  have h2 := parts_len b t
  unfold takM
  have : ([] : List (Int × Int)).length = 0 := rfl
  omega
end Tp

namespace Tp
open PySem L2
def updV : List Vn → Int → (Vv → Vv) → List Vn
  | [], _, _ => []
  | x :: l, n, f => if x.n = n then { x with v := f x.v } :: l else x :: updV l n f
theorem updV_split {n : Int} {x : Vn} : ∀ {vs : List Vn}, (vs.find? fun x => decide (x.n = n)) = some x → ∃ l1 l2, vs = l1 ++ x :: l2 ∧ ∀ f, updV vs n f = l1 ++ { x with v := f x.v } :: l2
  | [], h => nomatch h
  | y :: vs, h => by
    rw [List.find?_cons] at h
    by_cases e : y.n = n
    · rw [decide_eq_true e] at h
      cases h
      exact ⟨[], vs, rfl, fun f => if_pos e⟩
    · rw [decide_eq_false e] at h
      obtain ⟨l1, l2, e1, e2⟩ := updV_split h
      exact ⟨y :: l1, l2, by rw [e1]; rfl, fun f => by unfold updV; rw [if_neg e, e2]; rfl⟩
theorem vsK_upd (n : Int) (f : Vv → Vv) : ∀ vs, vsK (updV vs n f) = vsK vs
  | [] => rfl
  | x :: vs => by
    have ih := vsK_upd n f vs
    unfold updV
    split
    · rfl
    · unfold vsK at ih ⊢
      rw [List.map_cons, List.map_cons, ih]
theorem updV_len (n : Int) (f : Vv → Vv) : ∀ vs, (updV vs n f).length = vs.length
  | [] => rfl
  | x :: vs => by
    have ih := updV_len n f vs
    unfold updV
    split
    · rfl
    · rw [List.length_cons, List.length_cons, ih]
def dropV (vs : List Vn) (n : Int) : List Vn := vs.filter fun x => decide (x.n ≠ n)
theorem drop_vs (n : Int) : ∀ vs : List Vn, dropI (vsK vs) (Sum.inl n) = vsK (dropV vs n)
  | [] => rfl
  | x :: vs => by
    have ih := drop_vs n vs
    unfold dropI vsK dropV at ih ⊢
    rw [List.map_cons, List.filter_cons, List.filter_cons, ih]
    by_cases e : x.n = n
    · rw [if_neg (by simp [e]), if_neg (by simp [e])]
    · rw [if_pos (by simp [e]), if_pos (by simp [e])]; rfl
theorem put_vs {vs : List Vn} {n : Int} {p d : Addr} {v : Vv} (h : (vs.find? fun x => decide (x.n = n)) = none) : putI2 (vsK vs) (Sum.inl n) (.rf p) = vsK (vs ++ [⟨n, p, d, v⟩]) := by
  have e : ((vsK vs).any fun x => decide (x.1 = Sum.inl n)) = false := by
    rw [List.any_eq_false]
    intro y hy
    obtain ⟨x, hx, rfl⟩ := List.mem_map.mp hy
    have := List.find?_eq_none.mp h x hx
    simpa using this
  unfold putI2
  rw [e]
  unfold vsK
  rw [List.map_append]
  rfl
theorem mem6 {α : Type} {n1 n2 n3 n4 n5 n6 y : α} {l : List α} (h : y ∈ l) : y ∈ n1 :: n2 :: n3 :: n4 :: n5 :: n6 :: l := List.mem_cons_of_mem _ (List.mem_cons_of_mem _ (List.mem_cons_of_mem _ (List.mem_cons_of_mem _ (List.mem_cons_of_mem _ (List.mem_cons_of_mem _ h)))))
theorem vaN_in {CV : Addr} {vs : List Vn} {x : Vn} (h : x ∈ vs) : (x.a, Nd.ob CV x.d (vtF (vvE x.v))) ∈ vaN CV vs := List.mem_map.mpr ⟨x, h, rfl⟩
theorem vaN_mid (CV : Addr) (l1 l2 : List Vn) (x : Vn) : (vaN CV (l1 ++ x :: l2)).Perm ((x.a, Nd.ob CV x.d (vtF (vvE x.v))) :: (vaN CV l1 ++ vaN CV l2)) := by
  unfold vaN
  rw [List.map_append, List.map_cons]
  exact List.perm_middle
theorem perm6 {α : Type} {n1 n2 n3 n4 n5 n6 y : α} {l m : List α} (h : l.Perm (y :: m)) : (n1 :: n2 :: n3 :: n4 :: n5 :: n6 :: l).Perm (y :: n1 :: n2 :: n3 :: n4 :: n5 :: n6 :: m) :=
  ((((((h.cons n6).cons n5).cons n4).cons n3).cons n2).cons n1).trans (List.perm_middle (l₁ := [n1, n2, n3, n4, n5, n6]))
theorem perm_all {α : Type} {l : List α} : l.Perm (l ++ []) := by rw [List.append_nil]
theorem sub6 {α : Type} {n1 n2 n3 n4 n5 n6 : α} {l m : List α} (h : l.Sublist m) : (n1 :: n2 :: n3 :: n4 :: n5 :: n6 :: l).Sublist (n1 :: n2 :: n3 :: n4 :: n5 :: n6 :: m) := (((((h.cons_cons n6).cons_cons n5).cons_cons n4).cons_cons n3).cons_cons n2).cons_cons n1
def publV (t : Sta) (h : Int) (v : Vv) : Vv := { v with pub := some t, since := if v.pub.isSome = true then v.since else h }
def payB (b : Bk) (n : Int) : Bk := match vAt b n with
  | none => b
  | some x => match x.v.pub with
    | none => b
    | some t => { b with vs := dropV b.vs n, en := b.en ++ [n], pu := addP (addP b.pu (x.v.op.o2, x.v.mo - shaV x.v t b.rc)) (x.v.op.o1, shaV x.v t b.rc) }
theorem payB_is {b : Bk} {n : Int} {x : Vn} {t : Sta} (h : vAt b n = some x) (h2 : x.v.pub = some t) : payB b n = { b with vs := dropV b.vs n, en := b.en ++ [n], pu := addP (addP b.pu (x.v.op.o2, x.v.mo - shaV x.v t b.rc)) (x.v.op.o1, shaV x.v t b.rc) } := by simp only [payB, h, h2]
def pubB1 (b : Bk) (t : Sta) : Bk := { b with vs := updV b.vs t.c (publV t b.ht) }
def pubB (b : Bk) (t : Sta) : Bk := if t.f = true then payB (pubB1 b t) t.c else pubB1 b t
def splV (s : Spl) (v : Vv) : Vv := { v with mo := v.mo + s.s4 + s.s6 - s.s5 - s.s7, a := v.a + s.s4, b := v.b + s.s5, c := v.c + s.s6, d := v.d + s.s7, spl := v.spl + 1, least := if v.least < s.s2 then s.s2 else v.least }
def splB (b : Bk) (s : Spl) : Bk := match vAt b s.s0 with
  | none => b
  | some x => { b with vs := updV b.vs s.s0 (splV s), pu := addP (addP b.pu (x.v.op.o2, s.s7)) (x.v.op.o1, s.s5) }
theorem splB_is {b : Bk} {s : Spl} {x : Vn} (h : vAt b s.s0 = some x) : splB b s = { b with vs := updV b.vs s.s0 (splV s), pu := addP (addP b.pu (x.v.op.o2, s.s7)) (x.v.op.o1, s.s5) } := by simp only [splB, h]
def chg1 (tk m : List (Int × Int)) (x : Int × Int) : List (Int × Int) := match look m x.1 with
  | none => m
  | some v => putI m x.1 (v - (look tk x.1).getD 0)
def chgM (tk m : List (Int × Int)) : List (Int × Int) := tk.foldl (chg1 tk) m
def chgB (b : Bk) (t : Th) : Bk := { b with pu := chgM (takM b t) b.pu, bu := b.bu + t.fe }
theorem chg1_len (tk m : List (Int × Int)) (x : Int × Int) : (chg1 tk m x).length ≤ m.length + 1 := by
  unfold chg1
  split
  · omega
  · exact putI_len ..
theorem chg_len (tk : List (Int × Int)) : ∀ (l m : List (Int × Int)), (l.foldl (chg1 tk) m).length ≤ m.length + l.length
  | [], m => Nat.le_refl _
  | x :: l, m => by
    have h1 := chg_len tk l (chg1 tk m x)
    have h2 := chg1_len tk m x
    show (l.foldl (chg1 tk) (chg1 tk m x)).length ≤ m.length + (l.length + 1)
    omega
def opnV (o : Op) : Vv := ⟨o, o.o3 + o.o4, 0, 0, 0, 0, 0, 0, none, 0⟩
def actB (b : Bk) : Ac → Bk
  | .pay to am => { b with pu := addP b.pu (to, am) }
  | .opn o => { b with vs := b.vs ++ [⟨o.o0, 0, 0, opnV o⟩] }
  | .publ t => pubB b t
  | .sett n => payB b n
  | .splc s => splB b s
  | .revl x => { b with rc := putI b.rc (keyF x) b.ht }
def chdB (b : Bk) (t : Th) : Bk := { chgB b t with dn := b.dn ++ [(t.py, t.tg)] }
def doB (b : Bk) (t : Th) : Bk := actB (chdB b t) t.ac
def RdyA (b : Bk) : Ac → Prop
  | .opn o => vAt b o.o0 = none
  | .publ t => ∃ x, vAt b t.c = some x
  | .sett n => ∃ x t, vAt b n = some x ∧ x.v.pub = some t
  | .splc s => ∃ x, vAt b s.s0 = some x
  | _ => True
def SzB (b : Bk) (n : Nat) : Prop := b.pu.length ≤ n ∧ b.vs.length ≤ n ∧ b.rc.length ≤ n ∧ b.en.length ≤ n ∧ b.dn.length ≤ n
def Vn.z (x : Vn) : Vn := ⟨x.n, 0, 0, x.v⟩
def Bk.z (b : Bk) : Bk := { b with vs := b.vs.map Vn.z }
theorem pr2_snoc (l : List (Int × Int)) (x y : Int) : pr2 (l ++ [(x, y)]) = pr2 l ++ [.tuple [.int x, .int y]] := List.map_append
theorem pr2_len (l : List (Int × Int)) : (pr2 l).length = l.length := List.length_map ..
theorem vsK_len (l : List Vn) : (vsK l).length = l.length := List.length_map ..
theorem dc_at {m : List (Int × Int)} {i : Nat} {k : Key} {t : It} (h : (dcD (rcv m))[i]? = some (k, t)) : ∃ x, m[i]? = some x ∧ k = Sum.inl x.1 ∧ t = .da (.int x.2) := by
  unfold dcD rcv at h
  rw [List.map_map, List.getElem?_map] at h
  cases e : m[i]? with
  | none => rw [e] at h; cases h
  | some x => rw [e] at h; cases h; exact ⟨x, rfl, rfl, rfl⟩
theorem upd_at {b : Bk} {n : Int} {x : Vn} {f : Vv → Vv} (h : vAt b n = some x) : vAt { b with vs := updV b.vs n f } n = some { x with v := f x.v } := by
  obtain ⟨_, hn⟩ := vAt_mem h
  have go : ∀ vs : List Vn, (vs.find? fun x => decide (x.n = n)) = some x → ((updV vs n f).find? fun x => decide (x.n = n)) = some { x with v := f x.v } := fun vs => by
    induction vs with
    | nil => intro h; cases h
    | cons y l ih =>
      intro h
      rw [List.find?_cons] at h
      unfold updV
      by_cases e : y.n = n
      · rw [decide_eq_true e] at h
        cases h
        rw [if_pos e, List.find?_cons, decide_eq_true hn]
      · rw [decide_eq_false e] at h
        rw [if_neg e, List.find?_cons, decide_eq_false e]
        exact ih h
  exact go _ h
theorem chg1_no {tk m : List (Int × Int)} {x : Int × Int} (h : look m x.1 = none) : chg1 tk m x = m := by unfold chg1; rw [h]
theorem chg1_yes {tk m : List (Int × Int)} {x : Int × Int} {v : Int} (h : look m x.1 = some v) : chg1 tk m x = putI m x.1 (v - (look tk x.1).getD 0) := by unfold chg1; rw [h]
theorem pubB_t {b : Bk} {t : Sta} (h : t.f = true) : pubB b t = payB (pubB1 b t) t.c := if_pos h
theorem pubB_f {b : Bk} {t : Sta} (h : t.f = false) : pubB b t = pubB1 b t := if_neg (by rw [h]; decide)
def bkW (C CV : Addr) (A : Ba) (b : Bk) (y : Addr × Nd) (l1 l2 : List Vn) : List (Addr × Nd) := y :: (A.p, .ob C A.dx (bkF A b)) :: (A.a1, .dc (dcD (rcv b.pu))) :: (A.a2, .dc (vsK b.vs)) :: (A.a3, .dc (dcD (rcv b.rc))) :: (A.a4, .ls ((itD b.en).map It.da)) :: (A.a5, .ls ((pr2 b.dn).map It.da)) :: (vaN CV l1 ++ vaN CV l2)
theorem bk_out {C CV : Addr} {A : Ba} {b : Bk} {x : Vn} {l1 l2 : List Vn} (e : b.vs = l1 ++ x :: l2) : (bkG C CV A b).Perm (bkW C CV A b (x.a, Nd.ob CV x.d (vtF (vvE x.v))) l1 l2) := perm6 (by rw [e]; exact vaN_mid CV l1 l2 x)
theorem bk_back {C CV : Addr} {A : Ba} {b : Bk} {n : Int} {f : Vv → Vv} {x : Vn} {l1 l2 : List Vn} (e : updV b.vs n f = l1 ++ { x with v := f x.v } :: l2) : (bkW C CV A b (x.a, Nd.ob CV x.d (vtF (vvE (f x.v)))) l1 l2).Perm (bkG C CV A { b with vs := updV b.vs n f }) := by
  unfold bkG
  rw [vsK_upd]
  exact (perm6 (by rw [e]; exact vaN_mid CV l1 l2 { x with v := f x.v })).symm
theorem chgB_len (b : Bk) (t : Th) : (chgB b t).pu.length ≤ b.pu.length + 3 := by
  have h1 := chg_len (takM b t) (takM b t) b.pu
  have h2 := tak_len b t
  show (chgM (takM b t) b.pu).length ≤ _
  unfold chgM
  omega
theorem z_opn (b : Bk) (n : Int) (p d : Addr) (v : Vv) : ({ b with vs := b.vs ++ [⟨n, p, d, v⟩] } : Bk).z = ({ b with vs := b.vs ++ [⟨n, 0, 0, v⟩] } : Bk).z := by
  unfold Bk.z
  simp only [List.map_append]
  rfl
end Tp

namespace Tp
open PySem L2
theorem vt_re {v : Vt} (h : v.mo = v.op.o3 + v.op.o4 + v.a - v.b + v.c - v.d) : ({ v with op := v.op, mo := v.op.o3 + v.op.o4 + v.a - v.b + v.c - v.d } : Vt) = v := by rw [← h]
theorem dif_nodup {ns : List Int} (h : ns.Nodup) : (TpL.dif ns).length = ns.length := by
  have go : ∀ i, i ≤ ns.length → PyProof.Rows.firstMet (fun i => ns.getD i 0) i = ns.take i := fun i => by
    induction i with
    | zero => intro _; rfl
    | succ i ih =>
      intro hi
      have hlt : i < ns.length := hi
      rw [PyProof.Rows.firstMet_succ, ih (Nat.le_of_lt hlt), List.take_succ, List.getElem?_eq_getElem hlt]
      have hn : ns.getD i 0 = ns[i] := by rw [List.getD_eq_getElem?_getD, List.getElem?_eq_getElem hlt]; rfl
      rw [hn]
      unfold PyProof.Rows.step_dedup
      rw [if_neg]
      · rfl
      · intro hc
        rw [List.any_eq_true] at hc
        obtain ⟨x, hx, e⟩ := hc
        obtain ⟨j, hj, rfl⟩ := List.getElem_of_mem hx
        rw [List.length_take] at hj
        rw [List.getElem_take] at e
        have e : ns[j] = ns[i] := by simpa using e
        exact List.pairwise_iff_getElem.mp h j i (by omega) hlt (by omega) e
  unfold TpL.dif
  rw [go _ (Nat.le_refl _), List.take_length]
def b0 (pu : List (Int × Int)) : Bk := ⟨pu.foldl (fun m x => putI m x.1 x.2) [], [], [], [], [], 0, 0⟩
def GoodP (pu : List (Int × Int)) : Prop := pu.length ≤ 50 ∧ (pu.map (·.1)).Nodup ∧ (∀ x ∈ pu, 0 ≤ x.2 ∧ x.2 ≤ 1000000000000000) ∧ (pu.map (·.2)).sum ≤ 1000000000000000
structure La where
  p : Addr
  d : Addr
  w : Addr
def ths (ws : List Th) : List D := ws.map thD
def lgF (Z : La) (A : Ba) (rm : Int) : List (Str × It) := [("book", .rf A.p), ("room", .da (.int rm)), ("waiting", .rf Z.w)]
def lgG (CL C CV : Addr) (Z : La) (A : Ba) (rm : Int) (b : Bk) (ws : List Th) : List (Addr × Nd) := (Z.p, .ob CL Z.d (lgF Z A rm)) :: (Z.w, .ls ((ths ws).map It.da)) :: bkG C CV A b
theorem ths_len (ws : List Th) : (ths ws).length = ws.length := List.length_map ..
theorem ths_snoc (ws : List Th) (t : Th) : ths (ws ++ [t]) = ths ws ++ [thD t] := List.map_append
theorem shp_th (t : Th) (n : Nat) : Shp (n + 5) (thD t) := by
  refine .tup (.cons ?_ (.cons (shp_ha _ _) (.cons .int (.cons .int (.cons .int .nil)))))
  cases t.ac with
  | pay a b => exact .tup (.cons (.str (by decide +kernel)) (.cons .int (.cons .int .nil)))
  | opn o => exact .tup (.cons (.str (by decide +kernel)) (.cons (shp_op _ _) .nil))
  | publ u => exact .tup (.cons (.str (by decide +kernel)) (.cons (shp_sta _ _) .nil))
  | sett n => exact .tup (.cons (.str (by decide +kernel)) (.cons .int .nil))
  | splc s => exact .tup (.cons (.str (by decide +kernel)) (.cons (.tup (.cons .int (.cons .int (.cons .int (.cons .int (.cons .int (.cons .int (.cons .int (.cons .int .nil))))))))) .nil))
  | revl x => exact .tup (.cons (.str (by decide +kernel)) (.cons .int .nil))
theorem shp_ths (ws : List Th) (n : Nat) : Shp (n + 6) (.list (ths ws)) := .lst (ShpA.map (fun t => shp_th t n) ws)
def oiD : Option Nat → D
  | none => .none
  | some i => .int (i : Int)
def bet (ws : List Th) (t : Th) : Option Nat → Bool
  | none => true
  | some j => match ws[j]? with
    | none => false
    | some u => decide (u.fe < t.fe)
def bestN (b : Bk) (ws : List Th) : Nat → Option Nat
  | 0 => none
  | i + 1 => match ws[i]? with
    | none => bestN b ws i
    | some t => if bet ws t (bestN b ws i) = true ∧ reaR b t = [] then some i else bestN b ws i
def bst (b : Bk) (ws : List Th) : Option Nat := bestN b ws ws.length
theorem bestN_lt (b : Bk) (ws : List Th) : ∀ {i j : Nat}, bestN b ws i = some j → j < i
  | 0, _, h => nomatch h
  | i + 1, j, h => by
    unfold bestN at h
    split at h
    · have := bestN_lt b ws h; omega
    · split at h
      · cases h; omega
      · have := bestN_lt b ws h; omega
theorem bestN_s {b : Bk} {ws : List Th} {i : Nat} {t : Th} (ht : ws[i]? = some t) : bestN b ws (i + 1) = if bet ws t (bestN b ws i) = true ∧ reaR b t = [] then some i else bestN b ws i := by
  conv => lhs; unfold bestN
  rw [ht]
theorem bestN_yes {b : Bk} {ws : List Th} {i : Nat} {t : Th} (ht : ws[i]? = some t) (h : bestN b ws i = none) (hr : reaR b t = []) : bestN b ws (i + 1) = some i := by
  rw [bestN_s ht, h, if_pos ⟨rfl, hr⟩]
theorem bestN_yes2 {b : Bk} {ws : List Th} {i j : Nat} {t u : Th} (ht : ws[i]? = some t) (h : bestN b ws i = some j) (hu : ws[j]? = some u) (hl : u.fe < t.fe) (hr : reaR b t = []) : bestN b ws (i + 1) = some i := by
  rw [bestN_s ht, h, if_pos ⟨by simp only [bet, hu]; exact decide_eq_true hl, hr⟩]
theorem bestN_no {b : Bk} {ws : List Th} {i : Nat} {t : Th} (ht : ws[i]? = some t) (hr : reaR b t ≠ []) : bestN b ws (i + 1) = bestN b ws i := by
  rw [bestN_s ht, if_neg (fun z => hr z.2)]
theorem bestN_no2 {b : Bk} {ws : List Th} {i j : Nat} {t u : Th} (ht : ws[i]? = some t) (h : bestN b ws i = some j) (hu : ws[j]? = some u) (hl : ¬ u.fe < t.fe) : bestN b ws (i + 1) = bestN b ws i := by
  rw [bestN_s ht, if_neg (fun z => hl (of_decide_eq_true (by have := z.1; rw [h] at this; simp only [bet, hu] at this; exact this)))]
theorem len0 {α : Type} {l : List α} (h : decide ((l.length : Int) = 0) = true) : l = [] := List.eq_nil_of_length_eq_zero (by have := of_decide_eq_true h; omega)
theorem len1 {α : Type} {l : List α} (h : decide ((l.length : Int) = 0) = false) : l ≠ [] := fun e => by subst e; exact absurd h (by simp)
/-- whatever the addresses of the vaults are -/
theorem z_map (l : List Vn) : (l.map Vn.z).map Vn.z = l.map Vn.z := by rw [List.map_map]; rfl
theorem Bk.z_z (b : Bk) : b.z.z = b.z := by unfold Bk.z; simp only [z_map]
theorem vAt_z (b : Bk) (n : Int) : vAt b.z n = (vAt b n).map Vn.z := by
  unfold vAt Bk.z
  simp only [List.find?_map]
  rfl
theorem vsK_z (vs : List Vn) (n : Int) : (lkI (vsK (vs.map Vn.z)) (Sum.inl n)).isSome = (lkI (vsK vs) (Sum.inl n)).isSome := by
  rw [lk_vs, lk_vs, List.find?_map]
  show (((vs.find? fun x => decide (x.n = n)).map Vn.z).map _).isSome = _
  cases vs.find? fun x => decide (x.n = n) <;> rfl
theorem partsM_z (b : Bk) (t : Th) : partsM b.z t = partsM b t := by
  rcases t with ⟨ac, hs, py, fe, tg⟩
  cases ac with
  | splc s => simp only [partsM, vAt_z]; cases vAt b s.s0 <;> rfl
  | _ => rfl
theorem takM_z (b : Bk) (t : Th) : takM b.z t = takM b t := by unfold takM; rw [partsM_z]
theorem opnR_z (b : Bk) (o : Op) (h : List Int) : opnR b.z o h = opnR b o h := by
  unfold opnR
  rw [show (lkI (vsK b.z.vs) (Sum.inl o.o0)).isSome = (lkI (vsK b.vs) (Sum.inl o.o0)).isSome from vsK_z b.vs o.o0]
  rfl
theorem chanR_z (b : Bk) (h : List Int) (a : Ac) : chanR b.z h a = chanR b h a := by
  cases a with
  | publ t => simp only [chanR, vAt_z]; cases vAt b t.c <;> rfl
  | sett n => simp only [chanR, vAt_z]; cases vAt b n <;> rfl
  | splc s => simp only [chanR, vAt_z]; cases vAt b s.s0 <;> rfl
  | _ => rfl
theorem actR_z (b : Bk) (h : List Int) (a : Ac) : actR b.z h a = actR b h a := by
  cases a with
  | opn o => exact opnR_z b o h
  | publ t => exact chanR_z b h (.publ t)
  | sett n => exact chanR_z b h (.sett n)
  | splc s => exact chanR_z b h (.splc s)
  | pay _ _ => rfl
  | revl _ => rfl
theorem reaR_z (b : Bk) (t : Th) : reaR b.z t = reaR b t := by
  unfold reaR
  rw [actR_z, takM_z]
  rfl
theorem updV_z (n : Int) (f : Vv → Vv) : ∀ vs, updV (vs.map Vn.z) n f = (updV vs n f).map Vn.z
  | [] => rfl
  | x :: vs => by
    have ih := updV_z n f vs
    rw [List.map_cons]
    unfold updV
    by_cases e : x.n = n
    · rw [if_pos e, if_pos (show x.z.n = n from e)]; rfl
    · rw [if_neg e, if_neg (show ¬ x.z.n = n from e), ih]; rfl
theorem dropV_z (vs : List Vn) (n : Int) : dropV (vs.map Vn.z) n = (dropV vs n).map Vn.z := by
  unfold dropV
  rw [List.filter_map]
  rfl
theorem payB_z (b : Bk) (n : Int) : (payB b.z n).z = (payB b n).z := by
  simp only [payB, vAt_z]
  cases vAt b n with
  | none => exact b.z_z
  | some x =>
    rcases x with ⟨xn, xa, xd, ⟨vo, vm, va, vb, vc, vd, vsp, vl, vp, vsi⟩⟩
    cases vp with
    | none => exact b.z_z
    | some t =>
      show (({ b.z with vs := dropV (b.vs.map Vn.z) n, en := b.en ++ [n], pu := _ } : Bk)).z = _
      unfold Bk.z
      simp only [dropV_z, z_map]
      rfl
theorem pubB1_z (b : Bk) (t : Sta) : pubB1 b.z t = (pubB1 b t).z := by
  unfold pubB1
  show ({ b.z with vs := updV (b.vs.map Vn.z) t.c (publV t b.ht) } : Bk) = _
  rw [updV_z]
  rfl
theorem pubB_z (b : Bk) (t : Sta) : (pubB b.z t).z = (pubB b t).z := by
  unfold pubB
  rw [pubB1_z]
  split
  · exact payB_z _ _
  · exact Bk.z_z _
theorem splB_z (b : Bk) (s : Spl) : (splB b.z s).z = (splB b s).z := by
  simp only [splB, vAt_z]
  cases vAt b s.s0 with
  | none => exact b.z_z
  | some x =>
    show ({ b.z with vs := updV (b.vs.map Vn.z) s.s0 (splV s), pu := addP (addP b.pu (x.v.op.o2, s.s7)) (x.v.op.o1, s.s5) } : Bk).z = ({ b with vs := updV b.vs s.s0 (splV s), pu := addP (addP b.pu (x.v.op.o2, s.s7)) (x.v.op.o1, s.s5) } : Bk).z
    unfold Bk.z
    simp only [updV_z, z_map]
theorem actB_z (b : Bk) (a : Ac) : (actB b.z a).z = (actB b a).z := by
  cases a with
  | publ t => exact pubB_z b t
  | sett n => exact payB_z b n
  | splc s => exact splB_z b s
  | opn o => unfold actB Bk.z; simp only [List.map_append, z_map]
  | pay to am => unfold actB Bk.z; simp only [z_map]
  | revl x => unfold actB Bk.z; simp only [z_map]
theorem chdB_z (b : Bk) (t : Th) : chdB b.z t = (chdB b t).z := by
  unfold chdB chgB
  rw [takM_z]
  rfl
theorem doB_z (b : Bk) (t : Th) : (doB b.z t).z = (doB b t).z := by
  unfold doB
  rw [chdB_z]
  exact actB_z _ _
theorem z_do {b b2 : Bk} (t : Th) (h : b.z = b2.z) : (doB b t).z = (doB b2 t).z := by rw [← doB_z, h, doB_z]
theorem z_rea {b b2 : Bk} (t : Th) (h : b.z = b2.z) : reaR b t = reaR b2 t := by rw [← reaR_z, h, reaR_z]
theorem z_bestN {b b2 : Bk} (ws : List Th) (h : b.z = b2.z) : ∀ i, bestN b ws i = bestN b2 ws i
  | 0 => rfl
  | i + 1 => by
    have ih := z_bestN ws h i
    unfold bestN
    rw [ih]
    split
    · rfl
    · rename_i t _
      rw [z_rea t h]
theorem z_bst {b b2 : Bk} (ws : List Th) (h : b.z = b2.z) : bst b ws = bst b2 ws := z_bestN ws h _
def runB : Nat → Bk → List Th → List Th → Bk × List Th × List Th
  | 0, b, ws, did => (b, ws, did)
  | n + 1, b, ws, did => match bst b ws with
    | none => (b, ws, did)
    | some j => match ws[j]? with
      | none => (b, ws, did)
      | some t => runB n (doB b t) (ws.eraseIdx j) (did ++ [t])
theorem z_run : ∀ (n : Nat) {b b2 : Bk} (ws did : List Th), b.z = b2.z → (runB n b ws did).1.z = (runB n b2 ws did).1.z ∧ (runB n b ws did).2 = (runB n b2 ws did).2
  | 0, _, _, _, _, h => ⟨h, rfl⟩
  | n + 1, b, b2, ws, did, h => by
    unfold runB
    rw [z_bst ws h]
    split
    · exact ⟨h, rfl⟩
    · split
      · exact ⟨h, rfl⟩
      · exact z_run n _ _ (z_do _ h)
def blkB (rm : Int) (b : Bk) (ws : List Th) : Bk × List Th × List Th := runB rm.toNat { b with ht := b.ht + 1 } ws []
/-! what stays -/
def MoV (v : Vv) : Prop := v.mo = v.op.o3 + v.op.o4 + v.a - v.b + v.c - v.d
def MoB (b : Bk) : Prop := ∀ x ∈ b.vs, MoV x.v
def InB (b : Bk) : Prop := OkB b ∧ MoB b
theorem updV_mem {n : Int} {f : Vv → Vv} {y : Vn} : ∀ {vs : List Vn}, y ∈ updV vs n f → y ∈ vs ∨ ∃ x ∈ vs, y = { x with v := f x.v }
  | [], h => nomatch h
  | x :: vs, h => by
    unfold updV at h
    split at h
    · rcases List.mem_cons.mp h with rfl | h
      · exact .inr ⟨x, List.mem_cons_self, rfl⟩
      · exact .inl (List.mem_cons_of_mem _ h)
    · rcases List.mem_cons.mp h with rfl | h
      · exact .inl List.mem_cons_self
      · rcases updV_mem h with h | ⟨x', h1, h2⟩
        · exact .inl (List.mem_cons_of_mem _ h)
        · exact .inr ⟨x', List.mem_cons_of_mem _ h1, h2⟩
theorem InB.of_vs {b c : Bk} (h : InB b) (hs : ∀ y ∈ c.vs, ∃ x ∈ b.vs, y.v = x.v) : InB c :=
  ⟨fun y hy u e => let ⟨x, hx, e2⟩ := hs y hy; h.1 x hx u (e2 ▸ e), fun y hy => let ⟨x, hx, e2⟩ := hs y hy; e2 ▸ h.2 x hx⟩
theorem InB.z_of {b c : Bk} (h : InB b) (e : c.z = b.z) : InB c := h.of_vs fun y hy => by
  have h1 : y.z ∈ c.z.vs := List.mem_map.mpr ⟨y, hy, rfl⟩
  rw [e] at h1
  obtain ⟨x, hx, e2⟩ := List.mem_map.mp h1
  exact ⟨x, hx, by have := congrArg Vn.v e2; exact this.symm⟩
theorem payB_in {b : Bk} (h : InB b) (n : Int) : InB (payB b n) := by
  unfold payB
  split
  · exact h
  · split
    · exact h
    · exact h.of_vs fun y hy => ⟨y, (List.mem_filter.mp hy).1, rfl⟩
theorem pubB1_in {b : Bk} (h : InB b) {t : Sta} (ht : t.L.length ≤ 1000) : InB (pubB1 b t) := by
  refine ⟨fun y hy u e => ?_, fun y hy => ?_⟩
  · rcases updV_mem hy with hy | ⟨x, hx, rfl⟩
    · exact h.1 y hy u e
    · cases e; exact ht
  · rcases updV_mem hy with hy | ⟨x, hx, rfl⟩
    · exact h.2 y hy
    · exact h.2 x hx
theorem doB_in {b : Bk} (h : InB b) {t : Th} (ht : OkA t.ac) : InB (doB b t) := by
  have hc : InB (chdB b t) := h.of_vs fun y hy => ⟨y, hy, rfl⟩
  unfold doB
  revert hc
  generalize chdB b t = c
  intro hc
  rcases t with ⟨ac, hs, py, fe, tg⟩
  cases ac with
  | pay to am => exact hc.of_vs fun y hy => ⟨y, hy, rfl⟩
  | revl x => exact hc.of_vs fun y hy => ⟨y, hy, rfl⟩
  | sett n => exact payB_in hc n
  | publ u =>
    show InB (pubB c u)
    unfold pubB
    split
    · exact payB_in (pubB1_in hc ht) _
    · exact pubB1_in hc ht
  | opn o =>
    refine ⟨fun y hy u e => ?_, fun y hy => ?_⟩
    · rcases List.mem_append.mp hy with hy | hy
      · exact hc.1 y hy u e
      · rw [List.mem_singleton.mp hy] at e; cases e
    · rcases List.mem_append.mp hy with hy | hy
      · exact hc.2 y hy
      · rw [List.mem_singleton.mp hy]
        show o.o3 + o.o4 = o.o3 + o.o4 + 0 - 0 + 0 - 0
        omega
  | splc s =>
    show InB (splB c s)
    unfold splB
    split
    · exact hc
    · refine ⟨fun y hy u e => ?_, fun y hy => ?_⟩
      · rcases updV_mem hy with hy | ⟨x, hx, rfl⟩
        · exact hc.1 y hy u e
        · exact hc.1 x hx u e
      · rcases updV_mem hy with hy | ⟨x, hx, rfl⟩
        · exact hc.2 y hy
        · have := hc.2 x hx
          unfold MoV at this ⊢
          show x.v.mo + s.s4 + s.s6 - s.s5 - s.s7 = x.v.op.o3 + x.v.op.o4 + (x.v.a + s.s4) - (x.v.b + s.s5) + (x.v.c + s.s6) - (x.v.d + s.s7)
          omega
theorem payB_sz {b : Bk} {n : Nat} (h : SzB b n) (k : Int) : SzB (payB b k) (n + 2) := by
  obtain ⟨h1, h2, h3, h4, h5⟩ := h
  unfold payB
  split
  · exact ⟨by omega, by omega, by omega, by omega, by omega⟩
  · split
    · exact ⟨by omega, by omega, by omega, by omega, by omega⟩
    · rename_i x _ _ u _
      have g1 := addP_len b.pu (x.v.op.o2, x.v.mo - shaV x.v u b.rc)
      have g2 := addP_len (addP b.pu (x.v.op.o2, x.v.mo - shaV x.v u b.rc)) (x.v.op.o1, shaV x.v u b.rc)
      have g3 : (dropV b.vs k).length ≤ b.vs.length := List.length_filter_le ..
      refine ⟨by show (addP (addP b.pu _) _).length ≤ _; omega, by show (dropV b.vs k).length ≤ _; omega, by show b.rc.length ≤ _; omega, ?_, by show b.dn.length ≤ _; omega⟩
      show (b.en ++ [k]).length ≤ _
      rw [List.length_append]
      show b.en.length + 1 ≤ _
      omega
theorem doB_sz {b : Bk} {n : Nat} (h : SzB b n) (t : Th) : SzB (doB b t) (n + 6) := by
  have hc : SzB (chdB b t) (n + 3) := by
    obtain ⟨h1, h2, h3, h4, h5⟩ := h
    have := chgB_len b t
    refine ⟨by show (chgB b t).pu.length ≤ _; omega, by show b.vs.length ≤ _; omega, by show b.rc.length ≤ _; omega, by show b.en.length ≤ _; omega, ?_⟩
    show (b.dn ++ [(t.py, t.tg)]).length ≤ _
    rw [List.length_append]
    show b.dn.length + 1 ≤ _
    omega
  unfold doB
  revert hc
  generalize chdB b t = c
  intro hc
  have hc' := hc
  obtain ⟨h1, h2, h3, h4, h5⟩ := hc'
  rcases t with ⟨ac, hs, py, fe, tg⟩
  cases ac with
  | pay to am =>
    have := addP_len c.pu (to, am)
    exact ⟨by show (addP c.pu (to, am)).length ≤ _; omega, by show c.vs.length ≤ _; omega, by show c.rc.length ≤ _; omega, by show c.en.length ≤ _; omega, by show c.dn.length ≤ _; omega⟩
  | revl x =>
    have := putI_len c.rc (keyF x) c.ht
    exact ⟨by show c.pu.length ≤ _; omega, by show c.vs.length ≤ _; omega, by show (putI c.rc _ _).length ≤ _; omega, by show c.en.length ≤ _; omega, by show c.dn.length ≤ _; omega⟩
  | sett k =>
    obtain ⟨g1, g2, g3, g4, g5⟩ := payB_sz hc k
    exact ⟨by show (payB c k).pu.length ≤ _; omega, by show (payB c k).vs.length ≤ _; omega, by show (payB c k).rc.length ≤ _; omega, by show (payB c k).en.length ≤ _; omega, by show (payB c k).dn.length ≤ _; omega⟩
  | publ u =>
    have hp : SzB (pubB1 c u) (n + 3) := ⟨h1, by show (updV _ _ _).length ≤ _; rw [updV_len]; exact h2, h3, h4, h5⟩
    show SzB (pubB c u) _
    unfold pubB
    split
    · obtain ⟨g1, g2, g3, g4, g5⟩ := payB_sz hp u.c
      exact ⟨by omega, by omega, by omega, by omega, by omega⟩
    · obtain ⟨g1, g2, g3, g4, g5⟩ := hp
      exact ⟨by omega, by omega, by omega, by omega, by omega⟩
  | opn o =>
    refine ⟨by show c.pu.length ≤ _; omega, ?_, by show c.rc.length ≤ _; omega, by show c.en.length ≤ _; omega, by show c.dn.length ≤ _; omega⟩
    show (c.vs ++ [_]).length ≤ _
    rw [List.length_append]
    show c.vs.length + 1 ≤ _
    omega
  | splc s =>
    show SzB (splB c s) _
    unfold splB
    split
    · exact ⟨by omega, by omega, by omega, by omega, by omega⟩
    · rename_i x _
      have g1 := addP_len c.pu (x.v.op.o2, s.s7)
      have g2 := addP_len (addP c.pu (x.v.op.o2, s.s7)) (x.v.op.o1, s.s5)
      refine ⟨by show (addP (addP c.pu _) _).length ≤ _; omega, by show (updV _ _ _).length ≤ _; rw [updV_len]; omega, by show c.rc.length ≤ _; omega, by show c.en.length ≤ _; omega, by show c.dn.length ≤ _; omega⟩
theorem SzB.z_of {b c : Bk} {n : Nat} (h : SzB b n) (e : c.z = b.z) : SzB c n := by
  obtain ⟨h1, h2, h3, h4, h5⟩ := h
  have e1 := congrArg Bk.pu e
  have e2 := congrArg (fun x : Bk => x.vs.length) e
  have e3 := congrArg Bk.rc e
  have e4 := congrArg Bk.en e
  have e5 := congrArg Bk.dn e
  have e2 : c.vs.length = b.vs.length := by simpa [Bk.z] using e2
  exact ⟨by show c.z.pu.length ≤ _; rw [e1]; exact h1, by omega, by show c.z.rc.length ≤ _; rw [e3]; exact h3, by show c.z.en.length ≤ _; rw [e4]; exact h4, by show c.z.dn.length ≤ _; rw [e5]; exact h5⟩
theorem SzB.le {b : Bk} {n m : Nat} (h : SzB b n) (e : n ≤ m) : SzB b m := by
  obtain ⟨h1, h2, h3, h4, h5⟩ := h
  exact ⟨by omega, by omega, by omega, by omega, by omega⟩
theorem rdy {b : Bk} {t : Th} (h : reaR b t = []) : RdyA b t.ac := by
  have h2 : actR b t.hs t.ac = [] := by
    unfold reaR at h
    have := (List.append_eq_nil_iff.mp h).1
    exact (List.append_eq_nil_iff.mp this).2
  revert h2
  rcases t with ⟨ac, hs, py, fe, tg⟩
  cases ac with
  | pay _ _ => intro _; trivial
  | revl _ => intro _; trivial
  | opn o =>
    intro h2
    have h3 : opnR b o hs = [] := h2
    unfold opnR at h3
    have h4 := (List.append_eq_nil_iff.mp (List.append_eq_nil_iff.mp h3).1).2
    unfold wif at h4
    show vAt b o.o0 = none
    cases e : vAt b o.o0 with
    | none => rfl
    | some x =>
      rw [vk_some e] at h4
      simp at h4
  | publ u =>
    intro h2
    have h3 : chanR b hs (.publ u) = [] := h2
    show ∃ x, vAt b u.c = some x
    cases e : vAt b u.c with
    | none => simp only [chanR, e] at h3; exact absurd h3 (by simp)
    | some x => exact ⟨x, rfl⟩
  | splc s =>
    intro h2
    have h3 : chanR b hs (.splc s) = [] := h2
    show ∃ x, vAt b s.s0 = some x
    cases e : vAt b s.s0 with
    | none => simp only [chanR, e] at h3; exact absurd h3 (by simp)
    | some x => exact ⟨x, rfl⟩
  | sett n =>
    intro h2
    have h3 : chanR b hs (.sett n) = [] := h2
    show ∃ x u, vAt b n = some x ∧ x.v.pub = some u
    cases e : vAt b n with
    | none => simp only [chanR, e] at h3; exact absurd h3 (by simp)
    | some x =>
      simp only [chanR, e] at h3
      cases e2 : x.v.pub with
      | none => simp only [setR, e2] at h3; exact absurd h3 (by simp)
      | some u => exact ⟨x, u, rfl, e2⟩
theorem best_spec (b : Bk) (ws : List Th) : ∀ {i j : Nat}, i ≤ ws.length → bestN b ws i = some j → ∃ t, ws[j]? = some t ∧ reaR b t = []
  | 0, _, _, h => nomatch h
  | i + 1, j, hi, h => by
    unfold bestN at h
    split at h
    · exact best_spec b ws (by omega) h
    · rename_i t ht
      split at h
      · rename_i hc
        cases h
        exact ⟨t, ht, hc.2⟩
      · exact best_spec b ws (by omega) h
theorem bst_spec {b : Bk} {ws : List Th} {j : Nat} (h : bst b ws = some j) : ∃ t, ws[j]? = some t ∧ reaR b t = [] ∧ j < ws.length := by
  obtain ⟨t, h1, h2⟩ := best_spec b ws (Nat.le_refl _) h
  exact ⟨t, h1, h2, (List.getElem?_eq_some_iff.mp h1).1⟩
theorem ifold_len : ∀ (L m : List (Int × Int)), (L.foldl (fun m x => putI m x.1 x.2) m).length ≤ m.length + L.length
  | [], m => Nat.le_refl _
  | x :: L, m => by
    have h1 := ifold_len L (putI m x.1 x.2)
    have h2 := putI_len m x.1 x.2
    show (L.foldl (fun m x => putI m x.1 x.2) (putI m x.1 x.2)).length ≤ m.length + (L.length + 1)
    omega
theorem chk1 {pu : List (Int × Int)} (h1 : pu.length ≤ 50) (h2 : (pu.map (·.1)).Nodup) : (decide ((50 : Int) < ((pr2 pu).length : Int)) || !(PyData.int ((TpL.dif (pu.map (·.1))).length : Int)).eqv (.int ((((pu.map (·.1)).map PyData.int).length : Nat) : Int))) = false := by
  rw [dif_nodup h2, pr2_len, List.length_map, List.length_map, List.length_map, decide_eq_false (by omega)]
  rw [eqv_same (n := 0) .int]
  rfl
theorem chk2 {pu : List (Int × Int)} (h : ∀ x ∈ pu, 0 ≤ x.2 ∧ x.2 ≤ 1000000000000000) : (!((pu.map (·.2)).all fun x => decide (0 ≤ x) && decide (x ≤ 1000000000000000))) = false := by
  rw [Bool.not_eq_false', List.all_eq_true]
  intro x hx
  obtain ⟨y, hy, rfl⟩ := List.mem_map.mp hx
  have := h y hy
  rw [decide_eq_true this.1, decide_eq_true this.2]; rfl
theorem chk3 {pu : List (Int × Int)} (h : (pu.map (·.2)).sum ≤ 1000000000000000) : decide ((1000000000000000 : Int) < (pu.map (·.2)).sum) = false := decide_eq_false (by omega)
theorem ths_at {ws : List Th} {i : Nat} {d : D} (h : (ths ws)[i]? = some d) : ∃ t, ws[i]? = some t ∧ d = thD t := by
  unfold ths at h
  rw [List.getElem?_map] at h
  cases e : ws[i]? with
  | none => rw [e] at h; cases h
  | some t => rw [e] at h; exact ⟨t, rfl, (Option.some.inj h).symm⟩
theorem ths_g {ws : List Th} {i : Nat} {t : Th} (h : ws[i]? = some t) : (ths ws)[i]? = some (thD t) := by unfold ths; rw [List.getElem?_map, h]; rfl
theorem ths_atj {ws : List Th} {j : Nat} {u : Th} (h : ws[j]? = some u) : atI (ths ws) (j : Int) = some (thD u) := by
  have h1 := (List.getElem?_eq_some_iff.mp h).1
  rw [atI_D (by omega) (by rw [ths_len]; omega)]
  show some ((ths ws).getD j .none) = _
  rw [List.getD_eq_getElem?_getD, ths_g h]
  rfl
theorem ths_erase : ∀ (ws : List Th) (j : Nat), ths (ws.eraseIdx j) = (ths ws).eraseIdx j
  | [], _ => rfl
  | _ :: _, 0 => rfl
  | t :: ws, j + 1 => congrArg (thD t :: ·) (ths_erase ws j)
theorem seq_at {ws : List Th} {j : Nat} (h : j < ws.length) : seqIndex? (j : Int) (ths ws).length = some j := by
  unfold seqIndex?
  rw [ths_len]
  simp
  omega
theorem wh_n {did : List Th} {n : Nat} {rm : Int} {o : Option Nat} (hn : did.length + n = rm.toNat) (h : (!isN (oiD o) && decide (((ths did).length : Int) < rm)) = true) : n = n - 1 + 1 := by
  have h2 := of_decide_eq_true (Bool.and_eq_true_iff.mp h).2
  rw [ths_len] at h2
  omega
theorem wh_j {did : List Th} {rm : Int} {o : Option Nat} (h : (!isN (oiD o) && decide (((ths did).length : Int) < rm)) = true) : ∃ j, o = some j ∧ (did.length : Int) < rm := by
  have h2 := of_decide_eq_true (Bool.and_eq_true_iff.mp h).2
  rw [ths_len] at h2
  have h1 := (Bool.and_eq_true_iff.mp h).1
  cases o with
  | none => exact absurd h1 (by decide)
  | some j => exact ⟨j, rfl, h2⟩
theorem wh_run {c : Bk} {ws did : List Th} {n j : Nat} {rm : Int} {t : Th} {o : Option Nat} (hn : did.length + n = rm.toNat) (h : (!isN (oiD o) && decide (((ths did).length : Int) < rm)) = true) (hb : bst c ws = some j) (hj : ws[j]? = some t) : runB n c ws did = runB (n - 1) (doB c t) (ws.eraseIdx j) (did ++ [t]) := by
  have e := wh_n hn h
  rw [e]
  conv => lhs; unfold runB
  simp only [hb, hj]
  rfl
theorem wh_end {c : Bk} {ws did : List Th} {n : Nat} {rm : Int} (hn : did.length + n = rm.toNat) (h : (!isN (oiD (bst c ws)) && decide (((ths did).length : Int) < rm)) = false) : runB n c ws did = (c, ws, did) := by
  cases n with
  | zero => rfl
  | succ n =>
    unfold runB
    cases hb : bst c ws with
    | none => rfl
    | some j =>
      rw [hb, ths_len, decide_eq_true (by omega)] at h
      cases h
theorem oiD_n (o : Option Nat) : (!isN (oiD o)) = o.isSome := by cases o <;> rfl
end Tp

namespace Tp
open PySem L2
def lkN (r : Int) (k : Nat) : Lk := ⟨keyF (1 + r / (1 + 60 * (k : Int) + (k : Int)) % 4), 1 + r / (1 + 60 * (k : Int) + (k : Int)) / 4 % 3, r / (1 + 60 * (k : Int) + (k : Int)) / 12 % 8, decide (r / (1 + 60 * (k : Int) + (k : Int)) / 96 % 2 = 0)⟩
def locksN (r n : Int) : List Lk := (List.range n.toNat).map (lkN r)
theorem locksN_len (r n : Int) : (locksN r n).length = n.toNat := by unfold locksN; rw [List.length_map, List.length_range]
theorem lkN_snoc (r : Int) (i : Nat) : (List.range (i + 1)).map (lkN r) = (List.range i).map (lkN r) ++ [lkN r i] := by rw [List.range_succ, List.map_append]; rfl
theorem lks_snocN (L : List Lk) (l : Lk) : lks (L ++ [l]) = lks L ++ [lkD l] := List.map_append
def stZ (r m : Int) : Int := m - (r / 7 % 15 - 2) - ((locksN (r / 700) (r / 100 % 3)).map (·.a)).sum
def staN (r ch m : Int) : Sta := ⟨ch, r % 5, r / 7 % 15 - 2, if decide (r % 11 = 10) = true then stZ r m + 1 else stZ r m, locksN (r / 700) (r / 100 % 3), decide (r / 5 % 7 = 0)⟩
theorem staN_ok (r ch m : Int) : (staN r ch m).L.length ≤ 1000 := by
  show (locksN _ _).length ≤ 1000
  rw [locksN_len]
  omega
theorem sum_takeA {L : List Lk} {i : Nat} {l : Lk} (h : L[i]? = some l) : ((L.take (i + 1)).map (·.a)).sum = ((L.take i).map (·.a)).sum + l.a := by
  rw [List.take_succ, h, List.map_append, List.sum_append]
  show _ + (l.a + 0) = _
  omega
def monN (b : Bk) (ch : Int) : Int := match vAt b ch with
  | none => 12
  | some x => x.v.op.o3 + x.v.op.o4
def pubN (q ch : Int) (b : Bk) : Sta := match vAt b ch with
  | none => staN q ch (monN b ch)
  | some x => if q % 13 = 12 then ⟨ch, 0, x.v.op.o3, x.v.op.o4, [], false⟩ else staN q ch (monN b ch)
def ixN (b : Bk) (ch : Int) : Int := match vAt b ch with
  | none => 0
  | some x => x.v.spl
def splN (q ch : Int) (b : Bk) : Spl := ⟨ch, ixN b ch + (if decide (q % 9 = 8) = true then 1 else 0), q / 9 % 4, q / 36 % 8, q / 288 % 6 + (if decide (q % 29 = 28) = true then 999999999999995 else 0), q / 1728 % 6, q / 10368 % 6, q / 62208 % 9⟩
def actN (r : Int) (b : Bk) : Ac :=
  if r % 8 ≤ 1 then .opn ⟨7 + r / 8 % 2, 1, if decide (r / 16 % 16 = 15) = true then 1 else 2, r / 16 / 16 % 15, r / 16 / 240 % 9, r / 16 / 2160 % 3, r / 16 / 6480 % 7⟩
  else if r % 8 ≤ 3 then .publ (pubN (r / 16) (7 + r / 8 % 2) b)
  else if r % 8 = 4 then .sett (7 + r / 8 % 2)
  else if r % 8 = 5 then .splc (splN (r / 16) (7 + r / 8 % 2) b)
  else if r % 8 = 6 then .revl (1 + r / 16 % 4) else .pay (1 + r / 16 % 4) (r / 16 / 4 % 14)
theorem pubN_ok (q ch : Int) (b : Bk) : (pubN q ch b).L.length ≤ 1000 := by
  unfold pubN
  split
  · exact staN_ok _ _ _
  · split
    · exact Nat.zero_le _
    · exact staN_ok _ _ _
theorem actN_ok (r : Int) (b : Bk) : OkA (actN r b) := by
  unfold actN
  split
  · trivial
  · split
    · exact pubN_ok _ _ _
    · split
      · trivial
      · split
        · trivial
        · split <;> trivial
section
variable {r : Int} {b : Bk}
theorem actN_0 (h : decide (r % 8 ≤ 1) = true) : actN r b = .opn ⟨7 + r / 8 % 2, 1, if decide (r / 16 % 16 = 15) = true then 1 else 2, r / 16 / 16 % 15, r / 16 / 240 % 9, r / 16 / 2160 % 3, r / 16 / 6480 % 7⟩ := if_pos (of_decide_eq_true h)
theorem actN_1 (h0 : decide (r % 8 ≤ 1) = false) (h : decide (r % 8 ≤ 3) = true) : actN r b = .publ (pubN (r / 16) (7 + r / 8 % 2) b) := by unfold actN; rw [if_neg (of_decide_eq_false h0), if_pos (of_decide_eq_true h)]
theorem actN_2 (h0 : decide (r % 8 ≤ 1) = false) (h1 : decide (r % 8 ≤ 3) = false) (h : decide (r % 8 = 4) = true) : actN r b = .sett (7 + r / 8 % 2) := by unfold actN; rw [if_neg (of_decide_eq_false h0), if_neg (of_decide_eq_false h1), if_pos (of_decide_eq_true h)]
theorem actN_3 (h0 : decide (r % 8 ≤ 1) = false) (h1 : decide (r % 8 ≤ 3) = false) (h2 : decide (r % 8 = 4) = false) (h : decide (r % 8 = 5) = true) : actN r b = .splc (splN (r / 16) (7 + r / 8 % 2) b) := by unfold actN; rw [if_neg (of_decide_eq_false h0), if_neg (of_decide_eq_false h1), if_neg (of_decide_eq_false h2), if_pos (of_decide_eq_true h)]
theorem actN_4 (h0 : decide (r % 8 ≤ 1) = false) (h1 : decide (r % 8 ≤ 3) = false) (h2 : decide (r % 8 = 4) = false) (h3 : decide (r % 8 = 5) = false) (h : decide (r % 8 = 6) = true) : actN r b = .revl (1 + r / 16 % 4) := by unfold actN; rw [if_neg (of_decide_eq_false h0), if_neg (of_decide_eq_false h1), if_neg (of_decide_eq_false h2), if_neg (of_decide_eq_false h3), if_pos (of_decide_eq_true h)]
theorem actN_5 (h0 : decide (r % 8 ≤ 1) = false) (h1 : decide (r % 8 ≤ 3) = false) (h2 : decide (r % 8 = 4) = false) (h3 : decide (r % 8 = 5) = false) (h : decide (r % 8 = 6) = false) : actN r b = .pay (1 + r / 16 % 4) (r / 16 / 4 % 14) := by unfold actN; rw [if_neg (of_decide_eq_false h0), if_neg (of_decide_eq_false h1), if_neg (of_decide_eq_false h2), if_neg (of_decide_eq_false h3), if_neg (of_decide_eq_false h)]
end
def HHN : List (List Int) := [[1, 2], [2, 1], [1, 2, 3], [1], [2, 2], [1, 2]]
def hndN (z : Int) : List Int := HHN.getD (z % 6).toNat []
theorem hnd_at (z : Int) : atI (HHN.map haD) (z % 6) = some (haD (hndN z)) := by
  rw [atI_D (by omega) (by show _ < (6 : Int); omega)]
  unfold hndN
  have h : (z % 6).toNat = 0 ∨ (z % 6).toNat = 1 ∨ (z % 6).toNat = 2 ∨ (z % 6).toNat = 3 ∨ (z % 6).toNat = 4 ∨ (z % 6).toNat = 5 := by omega
  rcases h with h | h | h | h | h | h <;> rw [h] <;> rfl
def thN (r : Int) (b : Bk) : Th := ⟨actN (r / 6 / 108) b, hndN r, 1 + r / 6 % 3, r / 6 / 3 % 3, r / 6 / 9 % 12⟩
def puN (r : Int) : List (Int × Int) := [(1, 20 + r % 20), (2, r / 20 % 30), (3, r / 600 % 9)]
theorem puN_ok (r : Int) : GoodP (puN r) := by
  refine ⟨by show (3 : Nat) ≤ 50; decide, by show ([1, 2, 3] : List Int).Nodup; decide, fun x hx => ?_, ?_⟩
  · unfold puN at hx
    rcases List.mem_cons.mp hx with rfl | hx
    · show 0 ≤ 20 + r % 20 ∧ 20 + r % 20 ≤ 1000000000000000; omega
    · rcases List.mem_cons.mp hx with rfl | hx
      · show 0 ≤ r / 20 % 30 ∧ r / 20 % 30 ≤ 1000000000000000; omega
      · rw [List.mem_singleton.mp hx]
        show 0 ≤ r / 600 % 9 ∧ r / 600 % 9 ≤ 1000000000000000; omega
  · show 20 + r % 20 + (r / 20 % 30 + (r / 600 % 9 + 0)) ≤ 1000000000000000
    omega
theorem b0_in (pu : List (Int × Int)) : InB (b0 pu) := ⟨fun x hx => (nomatch hx), fun x hx => (nomatch hx)⟩
theorem b0_sz {pu : List (Int × Int)} (h : pu.length ≤ 50) : SzB (b0 pu) 50 := by
  have := ifold_len pu []
  refine ⟨?_, Nat.zero_le _, Nat.zero_le _, Nat.zero_le _, Nat.zero_le _⟩
  show (pu.foldl _ []).length ≤ 50
  have e : ([] : List (Int × Int)).length = 0 := rfl
  omega
theorem monN_z (b : Bk) (ch : Int) : monN b.z ch = monN b ch := by unfold monN; rw [vAt_z]; cases vAt b ch <;> rfl
theorem ixN_z (b : Bk) (ch : Int) : ixN b.z ch = ixN b ch := by unfold ixN; rw [vAt_z]; cases vAt b ch <;> rfl
theorem pubN_z (q ch : Int) (b : Bk) : pubN q ch b.z = pubN q ch b := by unfold pubN; rw [vAt_z, monN_z]; cases vAt b ch <;> rfl
theorem actN_z (r : Int) (b : Bk) : actN r b.z = actN r b := by unfold actN splN; rw [pubN_z, ixN_z]
theorem thN_z (r : Int) (b : Bk) : thN r b.z = thN r b := by unfold thN; rw [actN_z]
end Tp

namespace Tp
open PySem L2
def wifs (L : List (Str × Bool)) : List D := (L.filter fun x => x.2).map fun x => .str x.1
theorem wif_f (s : Str) : wif false s = [] := rfl
theorem wifs_nil : wifs [] = [] := rfl
theorem wifs_cons (s : Str) (k : Bool) (L : List (Str × Bool)) : wifs ((s, k) :: L) = wif k s ++ wifs L := by
  cases k <;> rfl
def opnL (b : Bk) (o : Op) (h : List Int) : List (Str × Bool) := [("one party", decide (o.o1 = o.o2)), ("late", decide (o.o6 < b.ht)), ("hands", !handsB h o.o1 o.o2), ("stands", (lkI (vsK b.vs) (Sum.inl o.o0)).isSome), ("gone", b.en.any fun x => decide (x = o.o0))]
theorem opnR_w (b : Bk) (o : Op) (h : List Int) : wifs (opnL b o h) = opnR b o h := by simp only [opnL, opnR, wifs_cons, wifs_nil, List.nil_append, List.append_assoc, List.append_nil]
def splL (b : Bk) (v : Vv) (s : Spl) (h : List Int) : List (Str × Bool) := [("hands", !handsB h v.op.o1 v.op.o2), ("index", !decide (s.s1 = v.spl)), ("late", decide (s.s3 < b.ht)), ("not enough", decide (v.mo + s.s4 + s.s6 < s.s5 + s.s7)), ("too much", decide (1000000000000000 < big (vF v) s)), ("published", !isN (osD v.pub))]
theorem splR_w (b : Bk) (v : Vv) (s : Spl) (h : List Int) : wifs (splL b v s h) = splR b v s h := by simp only [splL, splR, wifs_cons, wifs_nil, List.nil_append, List.append_assoc, List.append_nil]
def pubL (b : Bk) (v : Vv) (t : Sta) (h : List Int) (k1 k2 : Bool) : List (Str × Bool) := [("hands", !PyData.eqv (staD t) (opst v.op) && !handsB h v.op.o1 v.op.o2), ("below least", decide (t.n < v.least)), ("does not fit", !fitV v t), ("final with locks", t.f && decide (0 < ((lks t.L).length : Int))), ("not newer", k1), ("over", k2)]
theorem pubR_n {b : Bk} {v : Vv} {t : Sta} {h : List Int} (e : v.pub = none) : wifs (pubL b v t h false false) = pubR b v t h := by
  simp only [pubR, e, pubL, pubR0, wifs_cons, wifs_nil, wif_f, List.nil_append, List.append_assoc, List.append_nil]
theorem pubR_s {b : Bk} {v : Vv} {t u : Sta} {h : List Int} (e : v.pub = some u) : wifs (pubL b v t h (decide (t.n ≤ u.n)) (decide (v.since + v.op.o5 < b.ht))) = pubR b v t h := by
  simp only [pubR, e, pubL, pubR0, wifs_cons, wifs_nil, List.nil_append, List.append_assoc, List.append_nil]
theorem any_takeS {α : Type} {L : List α} {i : Nat} {x : α} (p : α → Bool) (h : L[i]? = some x) : (L.take (i + 1)).any p = ((L.take i).any p || p x) := by
  rw [List.take_succ, h, List.any_append]
  simp
theorem dec_le (a b : Int) : decide (a ≤ b) = !decide (b < a) := by by_cases h : b < a <;> simp [h] <;> omega
theorem not_all {α : Type} (L : List α) (p : α → Bool) : (!(L.all p)) = L.any fun x => !p x := by
  induction L with
  | nil => rfl
  | cons x L ih => rw [List.all_cons, List.any_cons, Bool.not_and, ih]
theorem shp_wif {n : Nat} {k : Bool} {s : Str} (h : (PyData.str s).canLay0 = true) : ShpA n (wif k s) := by
  unfold wif
  split
  · exact .cons (.str h) .nil
  · exact .nil
theorem shp_opnR {n : Nat} (b : Bk) (o : Op) (h : List Int) : ShpA n (opnR b o h) := ((((ShpA.nil.app (shp_wif (by decide +kernel))).app (shp_wif (by decide +kernel))).app (shp_wif (by decide +kernel))).app (shp_wif (by decide +kernel))).app (shp_wif (by decide +kernel))
theorem shp_splR {n : Nat} (b : Bk) (v : Vv) (s : Spl) (h : List Int) : ShpA n (splR b v s h) := (((((ShpA.nil.app (shp_wif (by decide +kernel))).app (shp_wif (by decide +kernel))).app (shp_wif (by decide +kernel))).app (shp_wif (by decide +kernel))).app (shp_wif (by decide +kernel))).app (shp_wif (by decide +kernel))
theorem shp_pubR0 {n : Nat} (v : Vv) (t : Sta) (h : List Int) : ShpA n (pubR0 v t h) := (((ShpA.nil.app (shp_wif (by decide +kernel))).app (shp_wif (by decide +kernel))).app (shp_wif (by decide +kernel))).app (shp_wif (by decide +kernel))
theorem shp_pubR {n : Nat} (b : Bk) (v : Vv) (t : Sta) (h : List Int) : ShpA n (pubR b v t h) := by
  unfold pubR
  split
  · exact shp_pubR0 v t h
  · exact ((shp_pubR0 v t h).app (shp_wif (by decide +kernel))).app (shp_wif (by decide +kernel))
theorem shp_one {n : Nat} {s : Str} (h : (PyData.str s).canLay0 = true) : ShpA n [PyData.str s] := .cons (.str h) .nil
theorem shp_setR {n : Nat} (b : Bk) (v : Vv) : ShpA n (setR b v) := by
  unfold setR
  split
  · exact shp_one (by decide +kernel)
  · exact (ShpA.nil.app (shp_wif (by decide +kernel))).app (shp_wif (by decide +kernel))
theorem shp_actR {n : Nat} (b : Bk) (h : List Int) (a : Ac) : ShpA n (actR b h a) := by
  cases a with
  | pay _ _ => exact .nil
  | opn o => exact shp_opnR b o h
  | revl x =>
    show ShpA n (if (lkK (rcv b.rc) (Sum.inl (keyF x))).isSome = true then [PyData.str "shown"] else [])
    split
    · exact shp_one (by decide +kernel)
    · exact .nil
  | publ t =>
    show ShpA n (chanR b h (.publ t))
    unfold chanR
    simp only []
    split
    · exact shp_one (by decide +kernel)
    · exact shp_pubR _ _ _ _
  | sett k =>
    show ShpA n (chanR b h (.sett k))
    unfold chanR
    simp only []
    split
    · exact shp_one (by decide +kernel)
    · exact shp_setR _ _
  | splc s =>
    show ShpA n (chanR b h (.splc s))
    unfold chanR
    simp only []
    split
    · exact shp_one (by decide +kernel)
    · exact shp_splR _ _ _ _
theorem shp_rea (b : Bk) (t : Th) (n : Nat) : Shp (n + 1) (.list (reaR b t)) := .lst (((ShpA.nil.app (shp_wif (by decide +kernel))).app (shp_actR b t.hs t.ac)).app (shp_wif (by decide +kernel)))
theorem run_in : ∀ (n : Nat) {b : Bk} {ws did : List Th}, InB b → (∀ t ∈ ws, OkA t.ac) → InB (runB n b ws did).1
  | 0, _, _, _, h, _ => h
  | n + 1, b, ws, did, h, ho => by
    unfold runB
    split
    · exact h
    · rename_i j hj
      split
      · exact h
      · rename_i t ht
        exact run_in n (doB_in h (ho t (List.mem_of_getElem? ht))) fun u hu => ho u (List.mem_of_mem_eraseIdx hu)
theorem run_sz : ∀ (n : Nat) {b : Bk} {ws did : List Th} {m : Nat}, SzB b m → SzB (runB n b ws did).1 (m + 6 * n)
  | 0, _, _, _, _, h => h
  | n + 1, b, ws, did, m, h => by
    unfold runB
    split
    · exact h.le (by omega)
    · split
      · exact h.le (by omega)
      · rename_i t _
        exact (run_sz n (doB_sz h t)).le (by omega)
theorem run_ws : ∀ (n : Nat) {b : Bk} {ws did : List Th}, (runB n b ws did).2.1.length ≤ ws.length ∧ ∀ t ∈ (runB n b ws did).2.1, t ∈ ws
  | 0, _, _, _ => ⟨Nat.le_refl _, fun _ h => h⟩
  | n + 1, b, ws, did => by
    unfold runB
    split
    · exact ⟨Nat.le_refl _, fun _ h => h⟩
    · rename_i j hj
      split
      · exact ⟨Nat.le_refl _, fun _ h => h⟩
      · rename_i t _
        obtain ⟨h1, h2⟩ := run_ws n (b := doB b t) (ws := ws.eraseIdx j) (did := did ++ [t])
        have := List.length_eraseIdx_le ws j
        exact ⟨by omega, fun u hu => List.mem_of_mem_eraseIdx (h2 u hu)⟩
theorem blk_in {rm : Int} {b : Bk} {ws : List Th} (h : InB b) (ho : ∀ t ∈ ws, OkA t.ac) : InB (blkB rm b ws).1 := run_in _ (h.of_vs fun y hy => ⟨y, hy, rfl⟩) ho
theorem blk_sz {rm : Int} {b : Bk} {ws : List Th} {m : Nat} (h : SzB b m) (hr : rm ≤ 4) : SzB (blkB rm b ws).1 (m + 24) := (run_sz _ (b := { b with ht := b.ht + 1 }) (m := m) h).le (by omega)
theorem blk_ws (rm : Int) (b : Bk) (ws : List Th) : (blkB rm b ws).2.1.length ≤ ws.length ∧ ∀ t ∈ (blkB rm b ws).2.1, t ∈ ws := run_ws _
end Tp

namespace Tp
open PySem L2
theorem perm_cnt {α : Type} {l m : List α} (h : ∀ (_ : DecidableEq α) (a : α), l.count a = m.count a) : l.Perm m := by
  letI : DecidableEq α := fun a b => Classical.propDecidable (a = b)
  exact List.perm_iff_count.mpr (fun a => h _ a)
def NdV (vs : List Vn) : Prop := (vs.map (·.n)).Nodup
theorem nd_find {vs : List Vn} (h : NdV vs) {x : Vn} (hx : x ∈ vs) : (vs.find? fun y => decide (y.n = x.n)) = some x := by
  induction vs with
  | nil => cases hx
  | cons y l ih =>
    have h' := List.nodup_cons.mp h
    rw [List.find?_cons]
    rcases List.mem_cons.mp hx with e | hx
    · subst e; rw [decide_eq_true rfl]
    · have hn : y.n ≠ x.n := fun e => h'.1 (List.mem_map.mpr ⟨x, hx, e.symm⟩)
      rw [decide_eq_false hn]
      exact ih h'.2 hx
theorem nd_lk {vs : List Vn} (h : NdV vs) {x : Vn} (hx : x ∈ vs) : lkI (vsK vs) (Sum.inl x.n) = some (.rf x.a) := by rw [lk_vs, nd_find h hx]; rfl
theorem vs_at {vs : List Vn} {i : Nat} {k : Key} {t : It} (h : (vsK vs)[i]? = some (k, t)) : ∃ x, vs[i]? = some x ∧ k = Sum.inl x.n ∧ t = .rf x.a := by
  unfold vsK at h
  rw [List.getElem?_map] at h
  cases e : vs[i]? with
  | none => rw [e] at h; cases h
  | some x => rw [e] at h; cases h; exact ⟨x, rfl, rfl, rfl⟩
theorem z_n (l : List Vn) : (l.map Vn.z).map (·.n) = l.map (·.n) := by rw [List.map_map]; rfl
theorem nd_new {vs ws : List Vn} {i : Nat} {x : Vn} (h : NdV vs) (hx : vs[i]? = some x) (hw : ws.map Vn.z = (vs.take i).map Vn.z) : (ws.find? fun y => decide (y.n = x.n)) = none := by
  rw [List.find?_eq_none]
  intro y hy e
  have e := of_decide_eq_true e
  have h1 : y.n ∈ (vs.take i).map (·.n) := by
    rw [← z_n, ← hw, z_n]
    exact List.mem_map.mpr ⟨y, hy, rfl⟩
  obtain ⟨u, hu, e2⟩ := List.mem_map.mp h1
  obtain ⟨j, hj, rfl⟩ := List.getElem_of_mem hu
  rw [List.length_take] at hj
  rw [List.getElem_take] at e2
  have hi := List.getElem?_eq_some_iff.mp hx
  obtain ⟨hi1, hi2⟩ := hi
  have := List.pairwise_iff_getElem.mp h j i (by rw [List.length_map]; omega) (by rw [List.length_map]; omega) (by omega)
  rw [List.getElem_map, List.getElem_map, hi2] at this
  exact this (e2.trans e)
theorem z_snoc {vs ws : List Vn} {i : Nat} {x : Vn} {p d : Addr} (hx : vs[i]? = some x) (hw : ws.map Vn.z = (vs.take i).map Vn.z) : (ws ++ [(⟨x.n, p, d, x.v⟩ : Vn)]).map Vn.z = (vs.take (i + 1)).map Vn.z := by
  rw [List.take_succ, hx, List.map_append, List.map_append, hw]; rfl
theorem z_len {vs ws : List Vn} (h : ws.map Vn.z = vs.map Vn.z) : ws.length = vs.length := by have := congrArg List.length h; simpa using this
theorem nd_z {b c : Bk} (h : c.z = b.z) (hb : NdV b.vs) : NdV c.vs := by
  have e : c.vs.map Vn.z = b.vs.map Vn.z := congrArg Bk.vs h
  unfold NdV
  rw [← z_n, e, z_n]
  exact hb
theorem mo_z {b c : Bk} (h : c.z = b.z) (hb : InB b) : InB c := hb.z_of h
theorem vs_z {b : Bk} {vs : List Vn} (h : vs.map Vn.z = b.vs.map Vn.z) : ({ b with vs := vs } : Bk).z = b.z := by unfold Bk.z; rw [h]
theorem nd_upd (n : Int) (f : Vv → Vv) : ∀ vs, (updV vs n f).map (·.n) = vs.map (·.n)
  | [] => rfl
  | x :: vs => by
    have ih := nd_upd n f vs
    unfold updV
    split
    · rfl
    · rw [List.map_cons, List.map_cons, ih]
theorem nd_drop {vs : List Vn} (h : NdV vs) (n : Int) : NdV (dropV vs n) := by
  unfold NdV dropV
  exact List.Nodup.sublist (List.Sublist.map _ List.filter_sublist) h
theorem payB_nd {b : Bk} (h : NdV b.vs) (n : Int) : NdV (payB b n).vs := by
  unfold payB
  split
  · exact h
  · split
    · exact h
    · exact nd_drop h n
theorem doB_nd {b : Bk} {t : Th} (h : NdV b.vs) (hr : RdyA b t.ac) : NdV (doB b t).vs := by
  unfold doB
  rcases t with ⟨ac, hs, py, fe, tg⟩
  cases ac with
  | pay _ _ => exact h
  | revl _ => exact h
  | sett n =>
    show NdV (payB (chdB b ⟨.sett n, hs, py, fe, tg⟩) n).vs
    exact payB_nd (b := chdB b ⟨.sett n, hs, py, fe, tg⟩) h n
  | publ u =>
    show NdV (pubB _ u).vs
    have h1 : NdV (pubB1 (chdB b ⟨.publ u, hs, py, fe, tg⟩) u).vs := by
      show ((updV b.vs u.c _).map (·.n)).Nodup
      rw [nd_upd]; exact h
    unfold pubB
    split
    · exact payB_nd h1 _
    · exact h1
  | opn o =>
    show ((b.vs ++ [(⟨o.o0, 0, 0, opnV o⟩ : Vn)]).map (·.n)).Nodup
    rw [List.map_append, List.nodup_append]
    refine ⟨h, by simp, fun a ha c hc => ?_⟩
    have hc : c = o.o0 := by simpa using hc
    subst hc
    intro e
    subst e
    obtain ⟨x, hx, e2⟩ := List.mem_map.mp ha
    exact List.find?_eq_none.mp hr x hx (decide_eq_true e2)
  | splc s =>
    show NdV (splB _ s).vs
    unfold splB
    split
    · exact h
    · show ((updV b.vs s.s0 _).map (·.n)).Nodup
      rw [nd_upd]; exact h
theorem run_nd : ∀ (n : Nat) {b : Bk} {ws did : List Th}, NdV b.vs → NdV (runB n b ws did).1.vs
  | 0, _, _, _, h => h
  | n + 1, b, ws, did, h => by
    unfold runB
    split
    · exact h
    · rename_i j hj
      split
      · exact h
      · rename_i t ht
        obtain ⟨u, hu, hr, _⟩ := bst_spec hj
        rw [ht] at hu; cases hu
        exact run_nd n (doB_nd h (rdy hr))
theorem blk_nd {rm : Int} {b : Bk} {ws : List Th} (h : NdV b.vs) : NdV (blkB rm b ws).1.vs := run_nd _ h
theorem b0_nd (pu : List (Int × Int)) : NdV (b0 pu).vs := List.nodup_nil
theorem bk_mid {α : Type} (n1 n2 n3 n4 n5 n6 : α) (l m : List α) : List.Perm ([n1, n2, n3, n4, n5, n6] ++ (l ++ m)) ((n1 :: n2 :: n3 :: n4 :: n5 :: n6 :: m) ++ l) := perm_cnt (fun _ a => by simp only [List.count_append, List.count_cons, List.count_nil]; omega)
theorem mem7 {α : Type} {n1 n2 n3 n4 n5 n6 n7 y : α} {l : List α} (h : y ∈ l) : y ∈ n1 :: n2 :: n3 :: n4 :: n5 :: n6 :: n7 :: l := List.mem_cons_of_mem _ (mem6 h)
end Tp

namespace Tp
open PySem L2
def NdM (m : List (Int × Int)) : Prop := (m.map (·.1)).Nodup
theorem putI_keys {m : List (Int × Int)} {k h : Int} (c : (m.any fun x => decide (x.1 = k)) = true) : (putI m k h).map (·.1) = m.map (·.1) := by
  unfold putI
  rw [if_pos c, List.map_map]
  refine List.map_congr_left fun x _ => ?_
  show (if x.1 = k then (x.1, h) else x).1 = x.1
  split <;> rfl
theorem any_no {m : List (Int × Int)} {k : Int} (c : ¬ (m.any fun x => decide (x.1 = k)) = true) : k ∉ m.map (·.1) := fun z => by
  obtain ⟨x, hx, e⟩ := List.mem_map.mp z
  exact c (List.any_eq_true.mpr ⟨x, hx, decide_eq_true e⟩)
theorem nd_put {m : List (Int × Int)} (h : NdM m) (k v : Int) : NdM (putI m k v) := by
  by_cases c : (m.any fun x => decide (x.1 = k)) = true
  · unfold NdM; rw [putI_keys c]; exact h
  · unfold putI NdM
    rw [if_neg c, List.map_append]
    refine List.nodup_append.mpr ⟨h, by simp, fun a ha b hb e => ?_⟩
    have hb : b = k := by simpa using hb
    subst hb; subst e
    exact any_no c ha
theorem nd_add {m : List (Int × Int)} (h : NdM m) (x : Int × Int) : NdM (addP m x) := nd_put h _ _
theorem nd_fold {f : List (Int × Int) → Int × Int → List (Int × Int)} (hf : ∀ m x, NdM m → NdM (f m x)) : ∀ (l : List (Int × Int)) {m : List (Int × Int)}, NdM m → NdM (l.foldl f m)
  | [], _, h => h
  | x :: l, m, h => nd_fold hf l (hf m x h)
theorem nd_chg1 (tk m : List (Int × Int)) (x : Int × Int) (h : NdM m) : NdM (chg1 tk m x) := by
  unfold chg1
  split
  · exact h
  · exact nd_put h _ _
theorem ndm_pay {b : Bk} (h : NdM b.pu) (n : Int) : NdM (payB b n).pu := by
  unfold payB
  split
  · exact h
  · split
    · exact h
    · exact nd_add (nd_add h _) _
theorem ndm_do {b : Bk} (h : NdM b.pu) (t : Th) : NdM (doB b t).pu := by
  have hc : NdM (chdB b t).pu := nd_fold (nd_chg1 _) _ h
  unfold doB
  revert hc
  generalize chdB b t = c
  intro hc
  rcases t with ⟨ac, hs, py, fe, tg⟩
  cases ac with
  | pay to am => exact nd_add hc _
  | revl _ => exact hc
  | opn _ => exact hc
  | sett n => exact ndm_pay hc n
  | publ u =>
    show NdM (pubB c u).pu
    unfold pubB
    split
    · exact ndm_pay (b := pubB1 c u) hc _
    · exact hc
  | splc s =>
    show NdM (splB c s).pu
    unfold splB
    split
    · exact hc
    · exact nd_add (nd_add hc _) _
theorem ndm_run : ∀ (n : Nat) {b : Bk} {ws did : List Th}, NdM b.pu → NdM (runB n b ws did).1.pu
  | 0, _, _, _, h => h
  | n + 1, b, ws, did, h => by
    unfold runB
    split
    · exact h
    · split
      · exact h
      · exact ndm_run n (ndm_do h _)
theorem ndm_blk {rm : Int} {b : Bk} {ws : List Th} (h : NdM b.pu) : NdM (blkB rm b ws).1.pu := ndm_run _ h
theorem ndm_b0 (pu : List (Int × Int)) : NdM (b0 pu).pu := nd_fold (f := fun m x => putI m x.1 x.2) (fun m x h => nd_put h _ _) pu (m := []) List.nodup_nil
theorem ndm_z {b c : Bk} (e : c.z = b.z) (h : NdM b.pu) : NdM c.pu := by
  have e1 : c.pu = b.pu := (congrArg Bk.pu e : c.z.pu = b.z.pu)
  rw [e1]; exact h
theorem look_nd : ∀ {m : List (Int × Int)}, NdM m → ∀ {x : Int × Int}, x ∈ m → look m x.1 = some x.2
  | [], _, _, h => nomatch h
  | y :: m, nd, x, h => by
    have nd' := List.nodup_cons.mp nd
    unfold look
    rw [List.find?_cons]
    rcases List.mem_cons.mp h with e | h
    · subst e; rw [decide_eq_true rfl]; rfl
    · rw [decide_eq_false (fun e => nd'.1 (List.mem_map.mpr ⟨x, h, e.symm⟩))]
      exact look_nd nd'.2 h
theorem rc_self {m : List (Int × Int)} (h : NdM m) : ∀ p ∈ rcv m, lkK (rcv m) p.1 = some p.2 ∧ Shp 62 p.2 := fun p hp => by
  obtain ⟨x, hx, e⟩ := List.mem_map.mp hp
  subst e
  exact ⟨by show lkK (rcv m) (Sum.inl x.1) = _; rw [lk_rcv, look_nd h hx]; rfl, .int⟩
theorem run_nil (n : Nat) (b : Bk) : runB n b [] [] = (b, [], []) := by
  cases n <;> rfl
theorem blk_nil (rm : Int) (b : Bk) : blkB rm b [] = ({ b with ht := b.ht + 1 }, [], []) := run_nil _ _
theorem eqv_nilL (l : List D) : PyData.eqv (.list l) (.list []) = l.isEmpty := by
  cases l <;> rfl
theorem eq_nilL {l : List D} (h : PyData.eqv (.list l) (.list []) = true) : l = [] := by
  rw [eqv_nilL] at h
  exact List.isEmpty_iff.mp h
theorem ne_nilL {l : List D} (h : PyData.eqv (.list l) (.list []) = false) : l ≠ [] := fun e => by subst e; cases h
end Tp

namespace Tp
open PySem L2
theorem pa_at {i : Nat} {d : D} (h : ([.int 1, .int 2, .int 3, .int 4] : List D)[i]? = some d) : ∃ pa : Int, d = .int (pa + 1) := by
  match i, h with
  | 0, h => cases h; exact ⟨0, rfl⟩
  | 1, h => cases h; exact ⟨1, rfl⟩
  | 2, h => cases h; exact ⟨2, rfl⟩
  | 3, h => cases h; exact ⟨3, rfl⟩
  | i + 4, h => cases h
theorem cutx_at {R : List Int} {lo hi : Option Int} {i : Nat} {d : D} (h : (cutD (itD R) lo hi)[i]? = some d) : ∃ x, x ∈ R ∧ d = .int x := by
  have h1 := List.mem_of_mem_drop (List.mem_of_mem_take (List.mem_of_getElem? h))
  obtain ⟨x, hx, e⟩ := List.mem_map.mp h1
  exact ⟨x, hx, e.symm⟩
theorem cut_lt {ds : List D} {lo hi : Option Int} {i : Nat} {d : D} (h : (cutD ds lo hi)[i]? = some d) : i < ds.length := by
  have h1 := (List.getElem?_eq_some_iff.mp h).1
  have h2 : (cutD ds lo hi).length ≤ ds.length := by
    unfold cutD
    rw [List.length_take, List.length_drop]
    omega
  omega
end Tp

namespace Tp
open PySem L2
def bsI : Option Nat → Int
  | none => -1
  | some j => (j : Int)
theorem z_up {b c : Bk} (h : b.z = c.z) : ({ b with ht := b.ht + 1 } : Bk).z = ({ c with ht := c.ht + 1 } : Bk).z := congrArg (fun x : Bk => ({ x with ht := x.ht + 1 } : Bk)) h
theorem run_did : ∀ (n : Nat) {b : Bk} {ws did : List Th}, (runB n b ws did).2.2.length ≤ did.length + n
  | 0, _, _, _ => Nat.le_refl _
  | n + 1, b, ws, did => by
    unfold runB
    split
    · show did.length ≤ _; omega
    · rename_i j _
      split
      · show did.length ≤ _; omega
      · rename_i t _
        have := run_did n (b := doB b t) (ws := ws.eraseIdx j) (did := did ++ [t])
        rw [List.length_append] at this
        exact Nat.le_trans this (by show did.length + 1 + n ≤ _; omega)
theorem run_stop {b : Bk} {ws did : List Th} (h : bst b ws = none) (n : Nat) : runB n b ws did = (b, ws, did) := by
  cases n with
  | zero => rfl
  | succ n => unfold runB; rw [h]
theorem run_one {b : Bk} {ws did : List Th} {j : Nat} {t : Th} (h : bst b ws = some j) (ht : ws[j]? = some t) (n : Nat) : runB (n + 1) b ws did = runB n (doB b t) (ws.eraseIdx j) (did ++ [t]) := by
  conv => lhs; unfold runB
  simp only [h, ht]
theorem shp_vk (vs : List Vn) (n : Nat) : Shp (n + 1) (.list ((vsK vs).map fun x => kD x.1)) := by
  unfold vsK
  rw [List.map_map]
  exact .lst (ShpA.map (fun _ => .int) vs)
theorem vk_z {vs ws : List Vn} (h : vs.map Vn.z = ws.map Vn.z) : ((vsK vs).map fun x => kD x.1) = ((vsK ws).map fun x => kD x.1) := by
  have e : ∀ l : List Vn, ((vsK l).map fun x => kD x.1) = (l.map Vn.z).map fun x => PyData.int x.n := fun l => by
    unfold vsK
    rw [List.map_map, List.map_map]; rfl
  rw [e, e, h]
theorem ths_at9 {ws : List Th} {i : Nat} {t : Th} (h : ws[i]? = some t) : ws.take (i + 1) = ws.take i ++ [t] := by rw [List.take_succ, h]; rfl
end Tp

namespace Tp
open PySem L2
def NN (m : List (Int × Int)) : Prop := ∀ x ∈ m, 0 ≤ x.2
def sumP (m : List (Int × Int)) : Int := (m.map (·.2)).sum
def moS (vs : List Vn) : Int := (vs.map (·.v.mo)).sum
def tot (b : Bk) : Int := sumP b.pu + moS b.vs
theorem sumP_c (a : Int × Int) (m : List (Int × Int)) : sumP (a :: m) = a.2 + sumP m := rfl
theorem moS_c (a : Vn) (m : List Vn) : moS (a :: m) = a.v.mo + moS m := rfl
theorem sumP_app (a m : List (Int × Int)) : sumP (a ++ m) = sumP a + sumP m := by unfold sumP; rw [List.map_append, List.sum_append]
theorem moS_app (a m : List Vn) : moS (a ++ m) = moS a + moS m := by unfold moS; rw [List.map_append, List.sum_append]
theorem look_c (a : Int × Int) (m : List (Int × Int)) (k : Int) : look (a :: m) k = if a.1 = k then some a.2 else look m k := by
  unfold look
  rw [List.find?_cons]
  by_cases e : a.1 = k
  · rw [decide_eq_true e, if_pos e]; rfl
  · rw [decide_eq_false e, if_neg e]
theorem look_no {m : List (Int × Int)} {k : Int} (h : k ∉ m.map (·.1)) : look m k = none := by
  induction m with
  | nil => rfl
  | cons a m ih =>
    rw [look_c, if_neg (fun e => h (List.mem_cons.mpr (.inl e.symm)))]
    exact ih fun z => h (List.mem_cons_of_mem _ z)
theorem map_no {m : List (Int × Int)} {k v : Int} (h : k ∉ m.map (·.1)) : (m.map fun x => if x.1 = k then (x.1, v) else x) = m := by
  induction m with
  | nil => rfl
  | cons a m ih =>
    rw [List.map_cons, if_neg (fun e => h (List.mem_cons.mpr (.inl e.symm))), ih fun z => h (List.mem_cons_of_mem _ z)]
theorem sum_put {m : List (Int × Int)} (nd : NdM m) (k v : Int) : sumP (putI m k v) = sumP m - (look m k).getD 0 + v := by
  by_cases c : (m.any fun x => decide (x.1 = k)) = true
  · unfold putI
    rw [if_pos c]
    induction m with
    | nil => cases c
    | cons a m ih =>
      have nd' := List.nodup_cons.mp nd
      rw [List.map_cons, look_c]
      by_cases e : a.1 = k
      · rw [if_pos e, if_pos e, map_no (by rw [← e]; exact nd'.1), sumP_c, sumP_c]
        show v + sumP m = a.2 + sumP m - a.2 + v
        omega
      · rw [if_neg e, if_neg e, sumP_c, sumP_c, ih nd'.2 (by rw [List.any_cons, decide_eq_false e, Bool.false_or] at c; exact c)]
        omega
  · unfold putI
    rw [if_neg c, sumP_app, look_no (any_no c)]
    show sumP m + (v + 0) = sumP m - 0 + v
    omega
theorem nn_put {m : List (Int × Int)} (h : NN m) {v : Int} (hv : 0 ≤ v) (k : Int) : NN (putI m k v) := fun x hx => by
  unfold putI at hx
  split at hx
  · obtain ⟨y, hy, e⟩ := List.mem_map.mp hx
    split at e
    · subst e; exact hv
    · subst e; exact h y hy
  · rcases List.mem_append.mp hx with hx | hx
    · exact h x hx
    · rw [List.mem_singleton.mp hx]; exact hv
theorem look_nn {m : List (Int × Int)} (h : NN m) (k : Int) : 0 ≤ (look m k).getD 0 := by
  induction m with
  | nil => exact Int.le_refl 0
  | cons a m ih =>
    rw [look_c]
    split
    · exact h a List.mem_cons_self
    · exact ih fun x hx => h x (List.mem_cons_of_mem _ hx)
theorem look_put_ne {m : List (Int × Int)} {k j v : Int} (h : j ≠ k) : look (putI m k v) j = look m j := by
  unfold putI
  split
  · rename_i c
    clear c
    induction m with
    | nil => rfl
    | cons a m ih =>
      rw [List.map_cons, look_c, look_c, ih]
      by_cases e : a.1 = k
      · rw [if_pos e]
        show (if a.1 = j then _ else _) = _
        rw [if_neg (fun z => h (z.symm.trans e)), if_neg (fun z => h (z.symm.trans e))]
      · rw [if_neg e]
  · induction m with
    | nil => show look [(k, v)] j = none; rw [look_c, if_neg (Ne.symm h)]; rfl
    | cons a m ih =>
      rename_i c
      rw [List.any_cons, Bool.or_eq_true, not_or] at c
      rw [List.cons_append, look_c, look_c, ih c.2]
theorem nn_add {m : List (Int × Int)} (h : NN m) {x : Int × Int} (hx : 0 ≤ x.2) : NN (addP m x) := nn_put h (by have := look_nn h x.1; omega) _
theorem sum_add {m : List (Int × Int)} (nd : NdM m) (x : Int × Int) : sumP (addP m x) = sumP m + x.2 := by
  unfold addP
  rw [sum_put nd]
  omega
theorem fold_add : ∀ (L : List (Int × Int)) {m : List (Int × Int)}, NN L → NdM m → NN m → NN (L.foldl addP m) ∧ NdM (L.foldl addP m) ∧ sumP (L.foldl addP m) = sumP m + sumP L
  | [], m, _, h1, h2 => ⟨h2, h1, by show sumP m = sumP m + 0; omega⟩
  | x :: L, m, hL, h1, h2 => by
    obtain ⟨g1, g2, g3⟩ := fold_add L (m := addP m x) (fun y hy => hL y (List.mem_cons_of_mem _ hy)) (nd_add h1 x) (nn_add h2 (hL x List.mem_cons_self))
    refine ⟨g1, g2, ?_⟩
    show sumP (L.foldl addP (addP m x)) = _
    rw [g3, sum_add h1, sumP_c]
    omega
theorem chg_fold (tk : List (Int × Int)) : ∀ (l : List (Int × Int)) {m : List (Int × Int)}, (l.map (·.1)).Nodup → NdM m → NN m → (∀ x ∈ l, 0 ≤ (look tk x.1).getD 0 ∧ (look tk x.1).getD 0 ≤ (look m x.1).getD 0) → NN (l.foldl (chg1 tk) m) ∧ sumP (l.foldl (chg1 tk) m) = sumP m - (l.map fun x => (look tk x.1).getD 0).sum
  | [], m, _, _, h2, _ => ⟨h2, by show sumP m = sumP m - 0; omega⟩
  | x :: l, m, nd, h1, h2, hp => by
    have nd' := List.nodup_cons.mp nd
    obtain ⟨p1, p2⟩ := hp x List.mem_cons_self
    have key : NdM (chg1 tk m x) ∧ NN (chg1 tk m x) ∧ sumP (chg1 tk m x) = sumP m - (look tk x.1).getD 0 ∧ ∀ j, j ≠ x.1 → look (chg1 tk m x) j = look m j := by
      cases e : look m x.1 with
      | none =>
        rw [e] at p2
        have p2 : (look tk x.1).getD 0 ≤ 0 := p2
        rw [chg1_no e]
        exact ⟨h1, h2, by omega, fun _ _ => rfl⟩
      | some v =>
        rw [e] at p2
        have p2 : (look tk x.1).getD 0 ≤ v := p2
        rw [chg1_yes e]
        refine ⟨nd_put h1 _ _, nn_put h2 (by omega) _, ?_, fun j hj => look_put_ne hj⟩
        rw [sum_put h1, e]
        show sumP m - v + _ = _
        omega
    obtain ⟨k1, k2, k3, k4⟩ := key
    obtain ⟨g1, g2⟩ := chg_fold tk l nd'.2 k1 k2 fun y hy => by
      rw [k4 y.1 fun e => nd'.1 (List.mem_map.mpr ⟨y, hy, e⟩)]
      exact hp y (List.mem_cons_of_mem _ hy)
    refine ⟨g1, ?_⟩
    show sumP (l.foldl (chg1 tk) (chg1 tk m x)) = _
    rw [g2, k3, List.map_cons, List.sum_cons]
    omega
theorem look_sum {tk : List (Int × Int)} (nd : NdM tk) : (tk.map fun x => (look tk x.1).getD 0).sum = sumP tk := by
  unfold sumP
  rw [List.map_congr_left (g := fun x => x.2) fun x hx => by rw [look_nd nd hx]; rfl]
theorem mo_drop {n : Int} {x : Vn} : ∀ {vs : List Vn}, NdV vs → (vs.find? fun y => decide (y.n = n)) = some x → moS (dropV vs n) + x.v.mo = moS vs
  | [], _, h => nomatch h
  | y :: vs, nd, h => by
    have nd' := List.nodup_cons.mp nd
    rw [List.find?_cons] at h
    unfold dropV
    by_cases e : y.n = n
    · rw [decide_eq_true e] at h
      cases h
      have hf : vs.filter (fun x => decide (x.n ≠ n)) = vs := List.filter_eq_self.mpr fun z hz => decide_eq_true fun e2 => nd'.1 (List.mem_map.mpr ⟨z, hz, e2.trans e.symm⟩)
      rw [List.filter_cons, if_neg (by simp [e]), hf, moS_c]
      omega
    · rw [decide_eq_false e] at h
      have ih := mo_drop nd'.2 h
      unfold dropV at ih
      rw [List.filter_cons, if_pos (by simp [e]), moS_c, moS_c]
      omega
theorem mo_upd {n : Int} {x : Vn} {f : Vv → Vv} {vs : List Vn} (h : (vs.find? fun y => decide (y.n = n)) = some x) : moS (updV vs n f) = moS vs - x.v.mo + (f x.v).mo := by
  obtain ⟨l1, l2, e1, e2⟩ := updV_split h
  rw [e2 f, e1, moS_app, moS_app, moS_c, moS_c]
  show moS l1 + ((f x.v).mo + moS l2) = _
  omega
def LkN (t : Sta) : Prop := ∀ l ∈ t.L, 0 ≤ l.a
def VOK (v : Vv) : Prop := MoV v ∧ 0 ≤ v.mo ∧ ∀ u, v.pub = some u → 0 ≤ freeA v u ∧ LkN u
theorem shr_nn {m : List (Int × Int)} : ∀ {L : List Lk} {s : Int × Int}, (∀ l ∈ L, 0 ≤ l.a) → 0 ≤ s.1 → 0 ≤ (L.foldl (stp m) s).1
  | [], _, _, h => h
  | l :: L, s, hL, h => shr_nn (L := L) (fun x hx => hL x (List.mem_cons_of_mem _ hx)) (by
    have := hL l List.mem_cons_self
    unfold stp
    split
    · exact h
    · show 0 ≤ s.1 + l.a; omega)
theorem sha_ok {v : Vv} {u : Sta} (m : List (Int × Int)) (h : VOK v) (hu : v.pub = some u) : 0 ≤ shaV v u m ∧ 0 ≤ v.mo - shaV v u m := by
  obtain ⟨_, h1, h2⟩ := h
  obtain ⟨h3, h4⟩ := h2 u hu
  have h5 : 0 ≤ (shr m u.L).1 := shr_nn h4 (Int.le_refl 0)
  unfold freeA at h3
  unfold shaV
  split <;> omega
def NNA : Ac → Prop
  | .pay _ am => 0 ≤ am
  | .opn o => 0 ≤ o.o3 ∧ 0 ≤ o.o4
  | .publ u => LkN u
  | .splc s => 0 ≤ s.s4 ∧ 0 ≤ s.s5 ∧ 0 ≤ s.s6 ∧ 0 ≤ s.s7
  | _ => True
def NNT (t : Th) : Prop := 0 ≤ t.fe ∧ NNA t.ac
structure SafeB (b : Bk) : Prop where
  nd : NdM b.pu
  nn : NN b.pu
  vd : NdV b.vs
  vo : ∀ x ∈ b.vs, VOK x.v
  ve : ∀ x ∈ b.vs, x.n ∉ b.en
  dn : b.dn.Nodup
theorem wif_nil {k : Bool} {s : Str} (h : wif k s = []) : k = false := by
  cases k with
  | false => rfl
  | true => cases h
theorem app3 {α : Type} {a b c : List α} (h : a ++ b ++ c = []) : a = [] ∧ b = [] ∧ c = [] := by
  have h1 := List.append_eq_nil_iff.mp h
  have h2 := List.append_eq_nil_iff.mp h1.1
  exact ⟨h2.1, h2.2, h1.2⟩
theorem rea_done {b : Bk} {t : Th} (h : reaR b t = []) : (t.py, t.tg) ∉ b.dn := fun z => by
  have h1 := wif_nil (by have := (app3 h).1; exact this)
  have h2 := List.any_eq_false.mp h1 (.tuple [.int t.py, .int t.tg]) (List.mem_map.mpr ⟨(t.py, t.tg), z, rfl⟩)
  exact h2 (eqv_same (n := 2) (.tup (.cons .int (.cons .int .nil))))
theorem rea_act {b : Bk} {t : Th} (h : reaR b t = []) : actR b t.hs t.ac = [] := (app3 h).2.1
theorem rea_poor {b : Bk} {t : Th} (h : reaR b t = []) : ∀ x ∈ takM b t, (look (takM b t) x.1).getD 0 ≤ (look b.pu x.1).getD 0 := fun x hx => by
  have h1 := wif_nil (app3 h).2.2
  have h2 := List.any_eq_false.mp h1 x hx
  unfold poorB at h2
  exact Int.not_lt.mp fun z => h2 (decide_eq_true z)
theorem parts_nn {b : Bk} {t : Th} (h : NNT t) : NN (partsM b t) := fun x hx => by
  rcases t with ⟨ac, hs, py, fe, tg⟩
  obtain ⟨h0, h1⟩ := h
  unfold partsM at hx
  rcases List.mem_cons.mp hx with e | hx
  · subst e; exact h0
  cases ac with
  | pay to am => rw [List.mem_singleton.mp hx]; exact h1
  | opn o =>
    rcases List.mem_cons.mp hx with e | hx
    · subst e; exact h1.1
    · rw [List.mem_singleton.mp hx]; exact h1.2
  | publ u => cases hx
  | sett n => cases hx
  | revl y => cases hx
  | splc s =>
    dsimp only at hx
    split at hx
    · cases hx
    · rcases List.mem_cons.mp hx with e | hx
      · subst e; exact h1.1
      · rw [List.mem_singleton.mp hx]; exact h1.2.2.1
theorem chd_safe {b : Bk} {t : Th} (S : SafeB b) (h : NNT t) (hr : reaR b t = []) : SafeB (chdB b t) ∧ sumP (chdB b t).pu = sumP b.pu - sumP (partsM b t) := by
  obtain ⟨g1, g2, g3⟩ := fold_add (partsM b t) (m := []) (parts_nn h) List.nodup_nil (fun x hx => nomatch hx)
  have g2 : NdM (takM b t) := g2
  have g3 : sumP (takM b t) = sumP (partsM b t) := g3.trans (by show (0 : Int) + _ = _; omega)
  obtain ⟨k1, k2⟩ := chg_fold (takM b t) (takM b t) (m := b.pu) g2 S.nd S.nn fun x hx => ⟨look_nn g1 x.1, rea_poor hr x hx⟩
  rw [look_sum g2, g3] at k2
  refine ⟨⟨nd_fold (nd_chg1 _) _ S.nd, k1, S.vd, S.vo, S.ve, ?_⟩, k2⟩
  show (b.dn ++ [(t.py, t.tg)]).Nodup
  refine List.nodup_append.mpr ⟨S.dn, by simp, fun x hx y hy e => ?_⟩
  rw [List.mem_singleton.mp hy] at e
  subst e
  exact rea_done hr hx
theorem pay_safe {b : Bk} {n : Int} (S : SafeB b) : SafeB (payB b n) ∧ tot (payB b n) = tot b ∧ (payB b n).bu = b.bu ∧ (payB b n).dn = b.dn ∧ ∃ es, (payB b n).en = b.en ++ es := by
  unfold payB
  split
  · exact ⟨S, rfl, rfl, rfl, [], by rw [List.append_nil]⟩
  · rename_i x hv
    split
    · exact ⟨S, rfl, rfl, rfl, [], by rw [List.append_nil]⟩
    · rename_i u hu
      obtain ⟨p1, p2⟩ := sha_ok b.rc (S.vo x (vAt_mem hv).1) hu
      have n1 := nd_add S.nd (x.v.op.o2, x.v.mo - shaV x.v u b.rc)
      refine ⟨⟨nd_add n1 _, nn_add (nn_add S.nn p2) p1, nd_drop S.vd n, fun y hy => S.vo y (List.mem_filter.mp hy).1, fun y hy z => ?_, S.dn⟩, ?_, rfl, rfl, [n], rfl⟩
      · rcases List.mem_append.mp z with z | z
        · exact S.ve y (List.mem_filter.mp hy).1 z
        · exact of_decide_eq_true (List.mem_filter.mp hy).2 (List.mem_singleton.mp z)
      · unfold tot
        have := mo_drop S.vd hv
        show sumP (addP (addP b.pu _) _) + moS (dropV b.vs n) = _
        rw [sum_add n1, sum_add S.nd]
        show sumP b.pu + (x.v.mo - shaV x.v u b.rc) + shaV x.v u b.rc + _ = _
        omega
theorem act_safe {b : Bk} {a : Ac} {hs : List Int} {py fe tg : Int} (S : SafeB b) (h : NNT ⟨a, hs, py, fe, tg⟩) (hr : actR b hs a = []) (hy : RdyA b a) : SafeB (actB b a) ∧ tot (actB b a) = tot b + (sumP (partsM b ⟨a, hs, py, fe, tg⟩) - fe) ∧ (actB b a).bu = b.bu ∧ (actB b a).dn = b.dn ∧ ∃ es, (actB b a).en = b.en ++ es := by
  cases a with
  | pay to am =>
    refine ⟨⟨nd_add S.nd _, nn_add S.nn h.2, S.vd, S.vo, S.ve, S.dn⟩, ?_, rfl, rfl, [], (List.append_nil _).symm⟩
    show sumP (addP b.pu (to, am)) + moS b.vs = sumP b.pu + moS b.vs + (fe + (am + 0) - fe)
    rw [sum_add S.nd]
    show sumP b.pu + am + _ = _
    omega
  | revl y =>
    refine ⟨⟨S.nd, S.nn, S.vd, S.vo, S.ve, S.dn⟩, ?_, rfl, rfl, [], (List.append_nil _).symm⟩
    show tot b = tot b + (fe + 0 - fe)
    omega
  | sett n =>
    obtain ⟨g1, g2, g3, g4, g5⟩ := pay_safe (n := n) S
    refine ⟨g1, ?_, g3, g4, g5⟩
    show tot (payB b n) = tot b + (fe + 0 - fe)
    omega
  | opn o =>
    have h3 : opnR b o hs = [] := hr
    have hg : (b.en.any fun x => decide (x = o.o0)) = false := wif_nil (List.append_eq_nil_iff.mp h3).2
    have hn : vAt b o.o0 = none := hy
    refine ⟨⟨S.nd, S.nn, ?_, fun y hy => ?_, fun y hy z => ?_, S.dn⟩, ?_, rfl, rfl, [], (List.append_nil _).symm⟩
    · show ((b.vs ++ [(⟨o.o0, 0, 0, opnV o⟩ : Vn)]).map (·.n)).Nodup
      rw [List.map_append, List.nodup_append]
      refine ⟨S.vd, by simp, fun a ha c hc e => ?_⟩
      have hc : c = o.o0 := by simpa using hc
      subst hc; subst e
      obtain ⟨x, hx, e2⟩ := List.mem_map.mp ha
      exact List.find?_eq_none.mp hn x hx (decide_eq_true e2)
    · rcases List.mem_append.mp hy with hy | hy
      · exact S.vo y hy
      · rw [List.mem_singleton.mp hy]
        have h1 : 0 ≤ o.o3 := h.2.1
        have h2 : 0 ≤ o.o4 := h.2.2
        refine ⟨?_, ?_, fun u hu => nomatch hu⟩
        · show o.o3 + o.o4 = o.o3 + o.o4 + 0 - 0 + 0 - 0; omega
        · show 0 ≤ o.o3 + o.o4; omega
    · rcases List.mem_append.mp hy with hy | hy
      · exact S.ve y hy z
      · rw [List.mem_singleton.mp hy] at z
        have := List.any_eq_false.mp hg o.o0 z
        exact this (decide_eq_true rfl)
    · show sumP b.pu + moS (b.vs ++ [(⟨o.o0, 0, 0, opnV o⟩ : Vn)]) = sumP b.pu + moS b.vs + (fe + (o.o3 + (o.o4 + 0)) - fe)
      rw [moS_app]
      show sumP b.pu + (moS b.vs + (o.o3 + o.o4 + 0)) = _
      omega
  | publ u =>
    obtain ⟨x, hv⟩ := hy
    have h3 : chanR b hs (.publ u) = [] := hr
    simp only [chanR, hv] at h3
    have hfit : fitV x.v u = true := by
      have e0 : pubR0 x.v u hs = [] := by
        unfold pubR at h3
        split at h3
        · exact h3
        · exact (app3 h3).1
      have := wif_nil (List.append_eq_nil_iff.mp (List.append_eq_nil_iff.mp e0).1).2
      simpa using this
    unfold fitV at hfit
    have hfr : 0 ≤ freeA x.v u := of_decide_eq_true (Bool.and_eq_true_iff.mp (Bool.and_eq_true_iff.mp hfit).2).1
    have S1 : SafeB (pubB1 b u) := by
      refine ⟨S.nd, S.nn, ?_, fun y hy => ?_, fun y hy => ?_, S.dn⟩
      · show ((updV b.vs u.c _).map (·.n)).Nodup
        rw [nd_upd]; exact S.vd
      · obtain ⟨l1, l2, e1, e2⟩ := updV_split (n := u.c) (vs := b.vs) hv
        have hy : y ∈ updV b.vs u.c (publV u b.ht) := hy
        rw [e2] at hy
        have hm : ∀ z, z ∈ l1 ∨ z ∈ l2 → z ∈ b.vs := fun z hz => by
          rw [e1]; exact hz.elim (fun w => List.mem_append_left _ w) fun w => List.mem_append_right _ (List.mem_cons_of_mem _ w)
        rcases List.mem_append.mp hy with hy | hy
        · exact S.vo y (hm y (.inl hy))
        · rcases List.mem_cons.mp hy with e | hy
          · subst e
            obtain ⟨q1, q2, q3⟩ := S.vo x (vAt_mem hv).1
            refine ⟨q1, q2, fun w hw => ?_⟩
            cases hw
            exact ⟨hfr, h.2⟩
          · exact S.vo y (hm y (.inr hy))
      · rcases updV_mem hy with hy | ⟨z, hz, rfl⟩
        · exact S.ve y hy
        · exact S.ve z hz
    have t1 : tot (pubB1 b u) = tot b := by
      show sumP b.pu + moS (updV b.vs u.c _) = _
      rw [mo_upd (x := x) hv]
      show sumP b.pu + (moS b.vs - x.v.mo + x.v.mo) = sumP b.pu + moS b.vs
      omega
    show SafeB (pubB b u) ∧ tot (pubB b u) = tot b + (fe + 0 - fe) ∧ (pubB b u).bu = b.bu ∧ (pubB b u).dn = b.dn ∧ ∃ es, (pubB b u).en = b.en ++ es
    unfold pubB
    split
    · obtain ⟨g1, g2, g3, g4, g5⟩ := pay_safe (n := u.c) S1
      exact ⟨g1, by omega, g3, g4, g5⟩
    · exact ⟨S1, by omega, rfl, rfl, [], (List.append_nil _).symm⟩
  | splc s =>
    obtain ⟨x, hv⟩ := hy
    have h3 : chanR b hs (.splc s) = [] := hr
    simp only [chanR, hv] at h3
    unfold splR at h3
    have hp : x.v.pub = none := by
      have h5 := wif_nil (List.append_eq_nil_iff.mp h3).2
      cases e : x.v.pub with
      | none => rfl
      | some u => rw [e] at h5; cases h5
    have hen : ¬ (x.v.mo + s.s4 + s.s6 < s.s5 + s.s7) := by
      have h4 := (List.append_eq_nil_iff.mp (List.append_eq_nil_iff.mp (List.append_eq_nil_iff.mp h3).1).1).2
      exact of_decide_eq_false (wif_nil h4)
    obtain ⟨h4, h5, h6, h7⟩ := h.2
    have hps : partsM b ⟨.splc s, hs, py, fe, tg⟩ = [(py, fe), (x.v.op.o1, s.s4), (x.v.op.o2, s.s6)] := parts_s1 hv
    rw [hps]
    show SafeB (splB b s) ∧ tot (splB b s) = _ ∧ (splB b s).bu = b.bu ∧ (splB b s).dn = b.dn ∧ ∃ es, (splB b s).en = b.en ++ es
    rw [splB_is hv]
    have n1 := nd_add S.nd (x.v.op.o2, s.s7)
    refine ⟨⟨nd_add n1 _, nn_add (nn_add S.nn h7) h5, ?_, fun y hy => ?_, fun y hy => ?_, S.dn⟩, ?_, rfl, rfl, [], (List.append_nil _).symm⟩
    · show ((updV b.vs s.s0 _).map (·.n)).Nodup
      rw [nd_upd]; exact S.vd
    · obtain ⟨l1, l2, e1, e2⟩ := updV_split (n := s.s0) (vs := b.vs) hv
      have hy : y ∈ updV b.vs s.s0 (splV s) := hy
      rw [e2] at hy
      have hm : ∀ z, z ∈ l1 ∨ z ∈ l2 → z ∈ b.vs := fun z hz => by
        rw [e1]; exact hz.elim (fun w => List.mem_append_left _ w) fun w => List.mem_append_right _ (List.mem_cons_of_mem _ w)
      rcases List.mem_append.mp hy with hy | hy
      · exact S.vo y (hm y (.inl hy))
      · rcases List.mem_cons.mp hy with e | hy
        · subst e
          obtain ⟨q1, q2, q3⟩ := S.vo x (vAt_mem hv).1
          unfold MoV at q1
          refine ⟨?_, ?_, fun w hw => ?_⟩
          · show x.v.mo + s.s4 + s.s6 - s.s5 - s.s7 = x.v.op.o3 + x.v.op.o4 + (x.v.a + s.s4) - (x.v.b + s.s5) + (x.v.c + s.s6) - (x.v.d + s.s7)
            omega
          · show 0 ≤ x.v.mo + s.s4 + s.s6 - s.s5 - s.s7
            omega
          · have hw : x.v.pub = some w := hw
            rw [hp] at hw; cases hw
        · exact S.vo y (hm y (.inr hy))
    · rcases updV_mem hy with hy | ⟨z, hz, rfl⟩
      · exact S.ve y hy
      · exact S.ve z hz
    · show sumP (addP (addP b.pu _) _) + moS (updV b.vs s.s0 (splV s)) = sumP b.pu + moS b.vs + (fe + (s.s4 + (s.s6 + 0)) - fe)
      rw [mo_upd (x := x) hv, sum_add n1, sum_add S.nd]
      show sumP b.pu + s.s7 + s.s5 + (moS b.vs - x.v.mo + (x.v.mo + s.s4 + s.s6 - s.s5 - s.s7)) = _
      omega
theorem do_safe {b : Bk} {t : Th} (S : SafeB b) (h : NNT t) (hr : reaR b t = []) : SafeB (doB b t) ∧ tot (doB b t) + t.fe = tot b ∧ (doB b t).bu = b.bu + t.fe ∧ (doB b t).dn = b.dn ++ [(t.py, t.tg)] ∧ ∃ es, (doB b t).en = b.en ++ es := by
  obtain ⟨S1, e1⟩ := chd_safe S h hr
  have hy := rdy hr
  have ha := rea_act hr
  rcases t with ⟨ac, hs, py, fe, tg⟩
  have hp : partsM (chdB b ⟨ac, hs, py, fe, tg⟩) ⟨ac, hs, py, fe, tg⟩ = partsM b ⟨ac, hs, py, fe, tg⟩ := by cases ac <;> rfl
  have ha2 : actR (chdB b ⟨ac, hs, py, fe, tg⟩) hs ac = [] := by
    rw [← ha]; cases ac <;> rfl
  have hy2 : RdyA (chdB b ⟨ac, hs, py, fe, tg⟩) ac := by cases ac <;> exact hy
  obtain ⟨g1, g2, g3, g4, g5⟩ := act_safe S1 h ha2 hy2
  rw [hp] at g2
  refine ⟨g1, ?_, g3, g4, g5⟩
  show tot (actB _ ac) + fe = _
  rw [g2]
  show sumP (chdB b ⟨ac, hs, py, fe, tg⟩).pu + moS b.vs + _ + fe = sumP b.pu + moS b.vs
  rw [e1]
  omega
def feeS (ts : List Th) : Int := (ts.map (·.fe)).sum
def prS (ts : List Th) : List (Int × Int) := ts.map fun t => (t.py, t.tg)
theorem run_safe : ∀ (n : Nat) {b : Bk} {ws did : List Th}, SafeB b → (∀ t ∈ ws, NNT t) → SafeB (runB n b ws did).1 ∧ ∃ ts, (runB n b ws did).2.2 = did ++ ts ∧ tot (runB n b ws did).1 + feeS ts = tot b ∧ (runB n b ws did).1.bu = b.bu + feeS ts ∧ (runB n b ws did).1.dn = b.dn ++ prS ts ∧ ∃ es, (runB n b ws did).1.en = b.en ++ es
  | 0, b, _, did, S, _ => ⟨S, [], (List.append_nil _).symm, Int.add_zero _, (Int.add_zero _).symm, (List.append_nil _).symm, [], (List.append_nil _).symm⟩
  | n + 1, b, ws, did, S, hw => by
    unfold runB
    split
    · exact ⟨S, [], (List.append_nil _).symm, Int.add_zero _, (Int.add_zero _).symm, (List.append_nil _).symm, [], (List.append_nil _).symm⟩
    · rename_i j hj
      split
      · exact ⟨S, [], (List.append_nil _).symm, Int.add_zero _, (Int.add_zero _).symm, (List.append_nil _).symm, [], (List.append_nil _).symm⟩
      · rename_i t ht
        obtain ⟨u, hu, hr, _⟩ := bst_spec hj
        rw [ht] at hu; cases hu
        obtain ⟨g1, g2, g3, g4, es, g5⟩ := do_safe S (hw t (List.mem_of_getElem? ht)) hr
        obtain ⟨k1, ts, k2, k3, k4, k5, es2, k6⟩ := run_safe n (ws := ws.eraseIdx j) (did := did ++ [t]) g1 fun u hu => hw u (List.mem_of_mem_eraseIdx hu)
        refine ⟨k1, t :: ts, by rw [k2, List.append_assoc]; rfl, ?_, ?_, ?_, es ++ es2, by rw [k6, g5, List.append_assoc]⟩
        · show _ + (t.fe + feeS ts) = _; omega
        · show _ = _ + (t.fe + feeS ts); omega
        · rw [k5, g4, List.append_assoc]; rfl
theorem ht_safe {b : Bk} (S : SafeB b) : SafeB { b with ht := b.ht + 1 } := ⟨S.nd, S.nn, S.vd, S.vo, S.ve, S.dn⟩
theorem blk_safe {rm : Int} {b : Bk} {ws : List Th} (S : SafeB b) (hw : ∀ t ∈ ws, NNT t) : SafeB (blkB rm b ws).1 ∧ tot (blkB rm b ws).1 + feeS (blkB rm b ws).2.2 = tot b ∧ (blkB rm b ws).1.bu = b.bu + feeS (blkB rm b ws).2.2 ∧ (blkB rm b ws).1.dn = b.dn ++ prS (blkB rm b ws).2.2 ∧ ∃ es, (blkB rm b ws).1.en = b.en ++ es := by
  obtain ⟨k1, ts, k2, k3, k4, k5, es, k6⟩ := run_safe rm.toNat (did := []) (ht_safe S) hw
  have k2 : (blkB rm b ws).2.2 = ts := k2
  rw [k2]
  exact ⟨k1, k3, k4, k5, es, k6⟩
theorem safe_z {b c : Bk} (e : c.z = b.z) (S : SafeB b) : SafeB c := by
  have e1 : c.pu = b.pu := (congrArg Bk.pu e : c.z.pu = b.z.pu)
  have e2 : c.en = b.en := (congrArg Bk.en e : c.z.en = b.z.en)
  have e3 : c.dn = b.dn := (congrArg Bk.dn e : c.z.dn = b.z.dn)
  have hx : ∀ y ∈ c.vs, ∃ x ∈ b.vs, x.n = y.n ∧ x.v = y.v := fun y hy => by
    have h1 : y.z ∈ c.z.vs := List.mem_map.mpr ⟨y, hy, rfl⟩
    rw [e] at h1
    obtain ⟨x, hx, e2⟩ := List.mem_map.mp h1
    exact ⟨x, hx, (congrArg Vn.n e2 : x.z.n = y.z.n), (congrArg Vn.v e2 : x.z.v = y.z.v)⟩
  exact ⟨e1 ▸ S.nd, e1 ▸ S.nn, nd_z e S.vd, fun y hy => let ⟨x, h1, _, h2⟩ := hx y hy; h2 ▸ S.vo x h1, fun y hy z => let ⟨x, h1, h2, _⟩ := hx y hy; S.ve x h1 (by rw [h2, ← e2]; exact z), e3 ▸ S.dn⟩
theorem tot_z {b c : Bk} (e : c.z = b.z) : tot c = tot b := by
  have e1 : c.pu = b.pu := (congrArg Bk.pu e : c.z.pu = b.z.pu)
  have e2 : c.vs.map Vn.z = b.vs.map Vn.z := (congrArg Bk.vs e : c.z.vs = b.z.vs)
  have hm : ∀ l : List Vn, moS l = ((l.map Vn.z).map (·.v.mo)).sum := fun l => by unfold moS; rw [List.map_map]; rfl
  unfold tot
  rw [e1, hm, hm, e2]
end Tp

namespace Tp
open PySem L2
theorem gd_nd {m : List (Int × Int)} (h : NdM m) {x : Int × Int} (hx : x ∈ m) : lkI (dcD (rcv m)) (Sum.inl x.1) = some (.da (.int x.2)) := by rw [gd_is, look_nd h hx]; rfl
def fdS : Key × It → D := fun u => match u.2 with
  | .da d => d
  | _ => .none
theorem fdS_all (m : List (Int × Int)) : PyData.list (((dcD (rcv m)).filter fun _ => true).map fdS) = .list (m.map fun x => .int x.2) := by
  rw [List.filter_eq_self.mpr (fun _ _ => rfl)]
  unfold dcD rcv
  rw [List.map_map, List.map_map]
  rfl
def fdM (b : Bk) : Key × It → D := fun u => match u.1 with
  | .inl n => .int (((vAt b n).map (·.v.mo)).getD 0)
  | _ => .none
theorem fdM_x {b : Bk} (h : NdV b.vs) {x : Vn} (hx : x ∈ b.vs) : fdM b (Sum.inl x.n, It.rf x.a) = .int x.v.mo := by
  show PyData.int (((vAt b x.n).map (·.v.mo)).getD 0) = _
  unfold vAt
  rw [nd_find h hx]; rfl
theorem fdM_all {b : Bk} (h : NdV b.vs) : PyData.list (((vsK b.vs).filter fun _ => true).map (fdM b)) = .list (b.vs.map fun x => .int x.v.mo) := by
  rw [List.filter_eq_self.mpr (fun _ _ => rfl)]
  unfold vsK
  rw [List.map_map]
  exact congrArg PyData.list (List.map_congr_left fun x hx => fdM_x h hx)
theorem vk_mem {vs : List Vn} {u : Key × It} (h : u ∈ vsK vs) : ∃ x ∈ vs, u = (Sum.inl x.n, .rf x.a) := by
  obtain ⟨x, hx, e⟩ := List.mem_map.mp h
  exact ⟨x, hx, e.symm⟩
theorem mem5 {α : Type} {n1 n2 n3 n4 n5 y : α} {l : List α} (h : y ∈ l) : y ∈ n1 :: n2 :: n3 :: n4 :: n5 :: l := List.mem_cons_of_mem _ (List.mem_cons_of_mem _ (List.mem_cons_of_mem _ (List.mem_cons_of_mem _ (List.mem_cons_of_mem _ h))))
theorem sumP_t {m : List (Int × Int)} {i : Nat} {x : Int × Int} (h : m[i]? = some x) : sumP (m.take (i + 1)) = sumP (m.take i) + x.2 := by
  rw [List.take_succ, h, sumP_app]
  show sumP (m.take i) + (x.2 + 0) = _
  omega
theorem moS_t {m : List Vn} {i : Nat} {x : Vn} (h : m[i]? = some x) : moS (m.take (i + 1)) = moS (m.take i) + x.v.mo := by
  rw [List.take_succ, h, moS_app]
  show moS (m.take i) + (x.v.mo + 0) = _
  omega
theorem feeS_t {m : List Th} {i : Nat} {x : Th} (h : m[i]? = some x) : feeS (m.take (i + 1)) = feeS (m.take i) + x.fe := by
  unfold feeS
  rw [List.take_succ, h, List.map_append, List.sum_append]
  show _ + (x.fe + 0) = _
  omega
theorem prS_t {m : List Th} {i : Nat} {x : Th} (h : m[i]? = some x) : prS (m.take (i + 1)) = prS (m.take i) ++ [(x.py, x.tg)] := by
  unfold prS
  rw [List.take_succ, h, List.map_append]; rfl
theorem any_out {l : List Int} {n : Int} (h : n ∉ l) : (l.any fun x => decide (x = n)) = false := List.any_eq_false.mpr fun x hx z => h (of_decide_eq_true z ▸ hx)
theorem cut_pre (es fs : List Int) : cutD (itD (es ++ fs)) none (some ((itD es).length : Int)) = itD es := by
  rw [cut_to (by omega)]
  unfold itD
  rw [List.map_append, List.length_map, Int.toNat_natCast, ← List.length_map (f := PyData.int), List.take_left]
theorem pair_any {l : List (Int × Int)} {x y : Int} (h : (x, y) ∉ l) : ((pr2 l).any fun z => PyData.eqv z (.tuple [.int x, .int y])) = false := by
  refine List.any_eq_false.mpr fun d hd z => ?_
  obtain ⟨u, hu, e⟩ := List.mem_map.mp hd
  subst e
  simp [PyData.eqv, PyData.eqvAll] at z
  obtain ⟨z1, z2⟩ := z
  exact h (by rw [← z1, ← z2]; exact hu)
theorem nnt_locks (r n : Int) : ∀ l ∈ locksN r n, 0 ≤ l.a := fun l hl => by
  obtain ⟨k, _, e⟩ := List.mem_map.mp hl
  subst e
  show 0 ≤ 1 + _ % 3
  omega
theorem nna_act (q : Int) (b : Bk) : NNA (actN q b) := by
  unfold actN
  split
  · exact ⟨by show 0 ≤ _ % 15; omega, by show 0 ≤ _ % 9; omega⟩
  · split
    · show LkN (pubN _ _ b)
      unfold pubN
      split
      · exact nnt_locks _ _
      · split
        · exact fun l hl => nomatch hl
        · exact nnt_locks _ _
    · split
      · trivial
      · split
        · refine ⟨?_, ?_, ?_, ?_⟩
          · show 0 ≤ _ % 6 + (if _ then (999999999999995 : Int) else 0); split <;> omega
          · show 0 ≤ _ % 6; omega
          · show 0 ≤ _ % 6; omega
          · show 0 ≤ _ % 9; omega
        · split
          · trivial
          · show 0 ≤ _ % 14; omega
theorem nnt_th (r : Int) (b : Bk) : NNT (thN r b) := ⟨by show 0 ≤ r / 6 / 3 % 3; omega, nna_act _ _⟩
theorem nn_fold0 : ∀ (L m : List (Int × Int)), NN L → NN m → NN (L.foldl (fun m x => putI m x.1 x.2) m)
  | [], _, _, h => h
  | x :: L, m, hL, h => nn_fold0 L _ (fun y hy => hL y (List.mem_cons_of_mem _ hy)) (nn_put h (hL x List.mem_cons_self) _)
theorem b0_safe (r : Int) : SafeB (b0 (puN r)) := ⟨ndm_b0 _, nn_fold0 _ _ (fun x hx => ((puN_ok r).2.2.1 x hx).1) (fun x hx => nomatch hx), b0_nd _, fun x hx => (nomatch hx), fun x hx => (nomatch hx), List.nodup_nil⟩
end Tp

namespace Tp
open PySem L2
def OkP1 (pu : List (Int × Int)) : Prop := pu.length ≤ 50 ∧ (pu.map (·.1)).Nodup ∧ ∀ x ∈ pu, 0 ≤ x.2 ∧ x.2 ≤ 1000000000000000
def smP (pu : List (Int × Int)) : Int := (pu.map (·.2)).sum
instance (pu : List (Int × Int)) : Decidable (OkP1 pu) := by unfold OkP1; infer_instance
theorem goodP_of {pu : List (Int × Int)} (h : OkP1 pu) (h2 : smP pu ≤ 1000000000000000) : GoodP pu := ⟨h.1, h.2.1, h.2.2, h2⟩
def dueF (pu : List (Int × Int)) (rm : Int) : Str := if OkP1 pu then (if smP pu ≤ 1000000000000000 then (if 1 ≤ rm ∧ rm ≤ 200 then "made" else "room") else "money") else "purses"
theorem dif_le (ns : List Int) : ∀ i, i ≤ ns.length → (PyProof.Rows.firstMet (fun i => ns.getD i 0) i).length ≤ i ∧ ((PyProof.Rows.firstMet (fun i => ns.getD i 0) i).length = i → PyProof.Rows.firstMet (fun i => ns.getD i 0) i = ns.take i ∧ (ns.take i).Nodup) := fun i => by
  induction i with
  | zero => intro _; exact ⟨Nat.le_refl _, fun _ => ⟨rfl, List.nodup_nil⟩⟩
  | succ i ih =>
    intro hi
    have hlt : i < ns.length := hi
    obtain ⟨h1, h2⟩ := ih (Nat.le_of_lt hlt)
    rw [PyProof.Rows.firstMet_succ]
    have hn : ns.getD i 0 = ns[i] := by rw [List.getD_eq_getElem?_getD, List.getElem?_eq_getElem hlt]; rfl
    rw [hn]
    unfold PyProof.Rows.step_dedup
    split
    · exact ⟨by omega, fun e => by omega⟩
    · rename_i hc
      rw [List.length_append]
      refine ⟨by show _ + 1 ≤ _; omega, fun e => ?_⟩
      have e : (PyProof.Rows.firstMet (fun i => ns.getD i 0) i).length = i := by have : _ + 1 = i + 1 := e; omega
      obtain ⟨e1, e2⟩ := h2 e
      rw [e1] at hc ⊢
      rw [List.take_succ, List.getElem?_eq_getElem hlt]
      refine ⟨rfl, List.nodup_append.mpr ⟨e2, by simp, fun a ha b hb => ?_⟩⟩
      have hb : b = ns[i] := by simpa using hb
      subst hb
      intro z
      exact hc (List.any_eq_true.mpr ⟨a, ha, by simpa using z⟩)
theorem dif_dup {ns : List Int} (h : ¬ ns.Nodup) : (TpL.dif ns).length ≠ ns.length := fun e => by
  obtain ⟨_, h2⟩ := dif_le ns ns.length (Nat.le_refl _)
  have := (h2 e).2
  rw [List.take_length] at this
  exact h this
theorem chk1x {pu : List (Int × Int)} (h : ¬ (pu.length ≤ 50 ∧ (pu.map (·.1)).Nodup)) : (decide ((50 : Int) < ((pr2 pu).length : Int)) || !(PyData.int ((TpL.dif (pu.map (·.1))).length : Int)).eqv (.int ((((pu.map (·.1)).map PyData.int).length : Nat) : Int))) = true := by
  by_cases hl : pu.length ≤ 50
  · have hd := dif_dup (fun z => h ⟨hl, z⟩)
    rw [List.length_map] at hd ⊢
    have e : (PyData.int ((TpL.dif (pu.map (·.1))).length : Int)).eqv (.int (((pu.map (·.1)).length : Nat) : Int)) = false := by
      show decide _ = false
      refine decide_eq_false fun z => hd ?_
      rw [List.length_map] at z
      omega
    rw [e]
    simp
  · rw [pr2_len, decide_eq_true (by omega)]; rfl
theorem chk2x {pu : List (Int × Int)} (h : ¬ ∀ x ∈ pu, 0 ≤ x.2 ∧ x.2 ≤ 1000000000000000) : (!((pu.map (·.2)).all fun x => decide (0 ≤ x) && decide (x ≤ 1000000000000000))) = true := by
  rw [Bool.not_eq_true', ← Bool.not_eq_true]
  intro z
  rw [List.all_eq_true] at z
  refine h fun x hx => ?_
  have := z x.2 (List.mem_map.mpr ⟨x, hx, rfl⟩)
  rw [Bool.and_eq_true] at this
  exact ⟨of_decide_eq_true this.1, of_decide_eq_true this.2⟩
theorem chk3x {pu : List (Int × Int)} (h : ¬ smP pu ≤ 1000000000000000) : decide ((1000000000000000 : Int) < (pu.map (·.2)).sum) = true := decide_eq_true (by unfold smP at h; omega)
theorem fold_new : ∀ (l m : List (Int × Int)), ((m ++ l).map (·.1)).Nodup → l.foldl (fun m x => putI m x.1 x.2) m = m ++ l
  | [], m, _ => (List.append_nil m).symm
  | x :: l, m, h => by
    have e : putI m x.1 x.2 = m ++ [x] := by
      unfold putI
      rw [if_neg]
      intro z
      obtain ⟨y, hy, e⟩ := List.any_eq_true.mp z
      have e := of_decide_eq_true e
      rw [List.map_append, List.nodup_append] at h
      exact h.2.2 y.1 (List.mem_map.mpr ⟨y, hy, rfl⟩) x.1 (by simp) e
    show l.foldl _ (putI m x.1 x.2) = _
    rw [e, fold_new l (m ++ [x]) (by rw [List.append_assoc]; exact h), List.append_assoc]; rfl
theorem b0_pu {pu : List (Int × Int)} (h : (pu.map (·.1)).Nodup) : (b0 pu).pu = pu := fold_new pu [] h
def fdQ (pu : List (Int × Int)) : Key × It → D := fun u => match u.1 with
  | .inl n => .tuple [.int n, .int ((look pu n).getD 0)]
  | _ => .none
theorem fdQ_x {pu : List (Int × Int)} (h : NdM pu) {x : Int × Int} (hx : x ∈ pu) : fdQ pu (Sum.inl x.1, It.da (.int x.2)) = .tuple [.int x.1, .int x.2] := by
  show PyData.tuple [.int x.1, .int ((look pu x.1).getD 0)] = _
  rw [look_nd h hx]; rfl
theorem fdQ_all {pu : List (Int × Int)} (h : NdM pu) : PyData.list (((dcD (rcv pu)).filter fun _ => true).map (fdQ pu)) = .list (pr2 pu) := by
  rw [List.filter_eq_self.mpr (fun _ _ => rfl)]
  unfold dcD rcv pr2
  rw [List.map_map, List.map_map]
  exact congrArg PyData.list (List.map_congr_left fun x hx => fdQ_x h hx)
theorem due_1 {pu : List (Int × Int)} {rm : Int} (h : ¬ OkP1 pu) : dueF pu rm = "purses" := if_neg h
theorem due_2 {pu : List (Int × Int)} {rm : Int} (h : OkP1 pu) (h2 : ¬ smP pu ≤ 1000000000000000) : dueF pu rm = "money" := by unfold dueF; rw [if_pos h, if_neg h2]
theorem due_3 {pu : List (Int × Int)} {rm : Int} (h : OkP1 pu) (h2 : smP pu ≤ 1000000000000000) (h3 : ¬ (1 ≤ rm ∧ rm ≤ 200)) : dueF pu rm = "room" := by unfold dueF; rw [if_pos h, if_pos h2, if_neg h3]
theorem due_4 {pu : List (Int × Int)} {rm : Int} (h : OkP1 pu) (h2 : smP pu ≤ 1000000000000000) (h3 : 1 ≤ rm ∧ rm ≤ 200) : dueF pu rm = "made" := by unfold dueF; rw [if_pos h, if_pos h2, if_pos h3]
theorem room_f {rm : Int} (h : 1 ≤ rm ∧ rm ≤ 200) : (!(decide (1 ≤ rm) && decide (rm ≤ 200))) = false := by rw [decide_eq_true h.1, decide_eq_true h.2]; rfl
theorem room_t {rm : Int} (h : ¬ (1 ≤ rm ∧ rm ≤ 200)) : (!(decide (1 ≤ rm) && decide (rm ≤ 200))) = true := by
  rw [Bool.not_eq_true', ← Bool.not_eq_true, Bool.and_eq_true]
  exact fun z => h ⟨of_decide_eq_true z.1, of_decide_eq_true z.2⟩
theorem not_ok1 {pu : List (Int × Int)} (h : ¬ (pu.length ≤ 50 ∧ (pu.map (·.1)).Nodup)) : ¬ OkP1 pu := fun z => h ⟨z.1, z.2.1⟩
theorem not_ok2 {pu : List (Int × Int)} (h : ¬ ∀ x ∈ pu, 0 ≤ x.2 ∧ x.2 ≤ 1000000000000000) : ¬ OkP1 pu := fun z => h z.2.2
/-- _law_due -/
theorem nodup_take {l : List Int} {i : Nat} {x : Int} (h : (l.take i).Nodup) (hx : l[i]? = some x) (hn : x ∉ l.take i) : (l.take (i + 1)).Nodup := by
  rw [List.take_succ, hx]
  refine List.nodup_append.mpr ⟨h, by simp, fun a ha b hb e => ?_⟩
  have hb : b = x := by simpa using hb
  subst hb; subst e
  exact hn ha
theorem nodup_not {l : List Int} {i : Nat} {x : Int} (hx : l[i]? = some x) (hn : x ∈ l.take i) : ¬ l.Nodup := fun h => by
  obtain ⟨j, hj, e⟩ := List.getElem_of_mem hn
  rw [List.length_take] at hj
  rw [List.getElem_take] at e
  obtain ⟨hi, e2⟩ := List.getElem?_eq_some_iff.mp hx
  exact List.pairwise_iff_getElem.mp h j i (by omega) hi (by omega) (e.trans e2.symm)
theorem pu_lc (x : Int) (n : Nat) : ∃ pu : List (Int × Int), lcOut (fun _ => true) (fun i => PyData.tuple [.int ((i : Int) + 1), .int (x / (7 + (i : Int)) % 9)]) n = pr2 pu ∧ pu.length = n := by
  refine ⟨(List.range n).map fun (i : Nat) => ((i : Int) + 1, x / (7 + (i : Int)) % 9), ?_, by rw [List.length_map, List.length_range]⟩
  rw [lcOut_all]
  unfold pr2
  rw [List.map_map]
  rfl
theorem pr2_set (pu : List (Int × Int)) (i : Nat) (a b : Int) : (pr2 pu).set i (.tuple [.int a, .int b]) = pr2 (pu.set i (a, b)) := by
  unfold pr2
  rw [List.map_set]
theorem itx_at {R : List Int} {i : Nat} {d : D} (h : (itD R)[i]? = some d) : ∃ x, R[i]? = some x ∧ d = .int x := by
  unfold itD at h
  rw [List.getElem?_map] at h
  cases e : R[i]? with
  | none => rw [e] at h; cases h
  | some x => rw [e] at h; exact ⟨x, rfl, (Option.some.inj h).symm⟩
theorem smP_t {pu : List (Int × Int)} {i : Nat} {x : Int × Int} (h : pu[i]? = some x) : smP (pu.take (i + 1)) = smP (pu.take i) + x.2 := sumP_t h
end Tp
namespace Tp
open PySem L2
def top (i : Nat) : Stmt := PySem.Challenge.pw_turnpike_k39_new_ledgers_are_refused.main.body.getD i (.Pass ⟨0, 0, 0, 0⟩)
abbrev s__law_rows : Stmt := top 15
abbrev s_check_purses : Stmt := top 12
abbrev s_Book_init : Stmt := inClass (top 8) 0
abbrev s_Ledger_init : Stmt := inClass (top 13) 0
abbrev s__law_made : Stmt := top 16
abbrev s__law_due : Stmt := top 17
abbrev s_law : Stmt := top 18
structure Xs where
  TurnpikeError : Addr
  OutOfBounds : Addr
  InvalidPurses : Addr
  TooMuchMoney : Addr
  Book : Addr
  Ledger : Addr
structure Txt (K : PySem.W.Frag) (mg : Str → Option Value) (xs : Xs) : Prop where
  cl_Book : Cls K xs.Book
  na_Book_purses : NoAttr K xs.Book "purses"
  na_Book_vaults : NoAttr K xs.Book "vaults"
  na_Book_receipts : NoAttr K xs.Book "receipts"
  na_Book_ended : NoAttr K xs.Book "ended"
  na_Book_done : NoAttr K xs.Book "done"
  na_Book_height : NoAttr K xs.Book "height"
  na_Book_burnt : NoAttr K xs.Book "burnt"
  cl_Ledger : Cls K xs.Ledger
  na_Ledger_book : NoAttr K xs.Ledger "book"
  na_Ledger_room : NoAttr K xs.Ledger "room"
  na_Ledger_waiting : NoAttr K xs.Ledger "waiting"
  x_TurnpikeError : XcT K mg "TurnpikeError" xs.TurnpikeError
  x_OutOfBounds : XcT K mg "OutOfBounds" xs.OutOfBounds
  x_InvalidPurses : XcT K mg "InvalidPurses" xs.InvalidPurses
  x_TooMuchMoney : XcT K mg "TooMuchMoney" xs.TooMuchMoney
  s_InvalidPurses_InvalidPurses : PySem.W.subIn K (.ref xs.InvalidPurses) (.ref xs.InvalidPurses) = some true
  s_OutOfBounds_InvalidPurses : PySem.W.subIn K (.ref xs.OutOfBounds) (.ref xs.InvalidPurses) = some false
  s_OutOfBounds_OutOfBounds : PySem.W.subIn K (.ref xs.OutOfBounds) (.ref xs.OutOfBounds) = some true
  s_OutOfBounds_TooMuchMoney : PySem.W.subIn K (.ref xs.OutOfBounds) (.ref xs.TooMuchMoney) = some false
  s_TooMuchMoney_InvalidPurses : PySem.W.subIn K (.ref xs.TooMuchMoney) (.ref xs.InvalidPurses) = some false
  s_TooMuchMoney_TooMuchMoney : PySem.W.subIn K (.ref xs.TooMuchMoney) (.ref xs.TooMuchMoney) = some true
  b_all : mg "all" = none
  b_int : mg "int" = none
  b_len : mg "len" = none
  b_range : mg "range" = none
  b_set : mg "set" = none
  b_sum : mg "sum" = none
  c_MOST_MONEY : ∃ t, mg "MOST_MONEY" = some (.int 1000000000000000 t)
  c_MOST_PURSES : ∃ t, mg "MOST_PURSES" = some (.int 50 t)
  c_MOST_ROOM : ∃ t, mg "MOST_ROOM" = some (.int 200 t)
theorem Txt.k_MOST_MONEY {xs : Xs} {X : Cx} {B : Bx} {r : List Sl} {pos : Pos} (T : Txt X.K X.mg xs) (hg : Gl X "MOST_MONEY" := by rfl) : EV X B (.Name "MOST_MONEY" pos) r (.int 1000000000000000) := by
  obtain ⟨t, e⟩ := T.c_MOST_MONEY
  exact evG (v := .int 1000000000000000) e ⟨t, rfl⟩ (.int _) hg
theorem Txt.k_MOST_PURSES {xs : Xs} {X : Cx} {B : Bx} {r : List Sl} {pos : Pos} (T : Txt X.K X.mg xs) (hg : Gl X "MOST_PURSES" := by rfl) : EV X B (.Name "MOST_PURSES" pos) r (.int 50) := by
  obtain ⟨t, e⟩ := T.c_MOST_PURSES
  exact evG (v := .int 50) e ⟨t, rfl⟩ (.int _) hg
theorem Txt.k_MOST_ROOM {xs : Xs} {X : Cx} {B : Bx} {r : List Sl} {pos : Pos} (T : Txt X.K X.mg xs) (hg : Gl X "MOST_ROOM" := by rfl) : EV X B (.Name "MOST_ROOM" pos) r (.int 200) := by
  obtain ⟨t, e⟩ := T.c_MOST_ROOM
  exact evG (v := .int 200) e ⟨t, rfl⟩ (.int _) hg
def c__law_rows (xs : Xs) : Ct := fun ds Q _ => ∃ (ns : List Int) (n : Int), ds = [.list (ns.map PyData.int), .int n] ∧ (0 ≤ n ∧ n ≤ 1000 ∧ ns.length ≤ 63) ∧ ∀ R : List Int, R.length = n.toNat → (∀ x ∈ R, 0 ≤ x) → Q (.nl (itD R))
def c_check_purses (xs : Xs) : Ct := fun ds Q E => ∃ pu : List (Int × Int), ds = [.list (pr2 pu)] ∧ pu.length ≤ 1000 ∧ (GoodP pu → Q (.da .none)) ∧ (¬ OkP1 pu → E xs.InvalidPurses) ∧ (OkP1 pu → ¬ smP pu ≤ 1000000000000000 → E xs.TooMuchMoney)
def c_Book_init (xs : Xs) : CtM := fun its gr gl Q _ => ∃ (p dx : Addr) (pu : List (Int × Int)), its = [.rf p, .da (.list (pr2 pu))] ∧ gr = [] ∧ gl = [(p, .ob xs.Book dx [])] ∧ pu.length ≤ 1000 ∧ ∀ A : Ba, A.p = p → Q (.da .none) (bkG xs.Book xs.Book A (b0 pu))
def c_Ledger_init (xs : Xs) : CtM := fun its gr gl Q E => ∃ (p dx : Addr) (pu : List (Int × Int)) (rm : Int), its = [.rf p, .da (.list (pr2 pu)), .da (.int rm)] ∧ gr = [] ∧ gl = [(p, .ob xs.Ledger dx [])] ∧ pu.length ≤ 1000 ∧ (GoodP pu → 1 ≤ rm ∧ rm ≤ 200 → ∀ (Z : La) (A : Ba), Z.p = p → Q (.da .none) (lgG xs.Ledger xs.Book xs.Book Z A rm (b0 pu) [])) ∧ (¬ OkP1 pu → ∀ g, E xs.InvalidPurses g) ∧ (OkP1 pu → ¬ smP pu ≤ 1000000000000000 → ∀ g, E xs.TooMuchMoney g) ∧ (GoodP pu → ¬ (1 ≤ rm ∧ rm ≤ 200) → ∀ g, E xs.OutOfBounds g)
def c__law_made (xs : Xs) : CtM := fun its gr gl Q _ => ∃ (pu : List (Int × Int)) (rm : Int), its = [.da (.list (pr2 pu)), .da (.int rm)] ∧ gr = [] ∧ gl = [] ∧ (pu.length ≤ 100) ∧ ∀ g, Q (.da (.str (dueF pu rm))) g
def c__law_due (xs : Xs) : Ct := fun ds Q _ => ∃ (pu : List (Int × Int)) (rm : Int), ds = [.list (pr2 pu), .int rm] ∧ (pu.length ≤ 100) ∧ Q (.da (.str (dueF pu rm)))
def c_law (xs : Xs) : Ct := fun ds Q _ => ∃ (ns : List Int), ds = [PyData.list (ns.map PyData.int)] ∧ (ns.length ≤ 63) ∧ Q (.da (.bool true))
end Tp
local macro_rules | `(tactic| walk_at "Tp.fact") => `(tactic| first | exact Tp.shp_pr _ _ | exact Tp.num_nn _ _ | exact Tp.shp_op _ _ | exact Tp.shp_sta _ _ | exact Tp.shp_os _ _ | exact Tp.shp_ha _ _ | exact Tp.shp_it _ _ | exact Tp.shp_pr _ _ | exact Tp.shp_th _ _ | exact Tp.shp_ths _ _ | exact Tp.shp_rea _ _ _)
namespace Tp
open PySem L2
theorem rt_is {Q : Rs → Prop} {a b : Rs} (h : Q a) (e : b = a) : Q b := e ▸ h
end Tp
local macro_rules | `(tactic| walk_at "Tp.bool") => `(tactic| simp only [Bool.and_eq_true, Bool.or_eq_true, Bool.not_eq_true', Bool.not_eq_true, Bool.not_eq_false', Bool.not_eq_false, Bool.and_eq_false_iff, Bool.or_eq_false_iff, decide_eq_true_eq, decide_eq_false_iff_not, Bool.not_not, bne_iff_ne, ne_eq, Bool.false_eq_true, Bool.true_eq_false, not_true_eq_false, not_false_eq_true, Decidable.not_not, Int.not_lt, Int.not_le, Bool.not_true, Bool.not_false, Bool.true_or, Bool.or_true, Bool.false_or, Bool.or_false, Bool.true_and, Bool.and_true, Bool.false_and, Bool.and_false, reduceCtorEq, eq_self, decide_true, decide_false, false_or, or_false, true_or, or_true, true_and, and_true, false_and, and_false] at *)
local macro_rules | `(tactic| walk_at "Tp.pre") => `(tactic| first | trivial | decide | omega | assumption | exact of_decide_eq_true (by assumption) | walk_at "Tp.fact" | exact Or.inr ⟨by omega, by omega⟩ | exact Or.inl ⟨by omega, by omega⟩ | (simp only [List.length_cons, List.length_nil, List.length_map, List.length_append]; omega) | (refine ⟨?_, ?_⟩ <;> first | trivial | decide | omega | assumption) | ((try walk_at "Tp.bool"); all_goals omega) | ((try walk_at "Tp.bool"); all_goals (try simp only [List.length_cons, List.length_nil, List.length_map, List.length_append]); all_goals omega) | (walk_at "Tp.sm"; done))
local macro_rules | `(tactic| walk_at "Tp.add") => `(tactic| first | exact Tp.ov_add | exact Tp.ov_catA (by walk_at "Tp.len") | exact Tp.ov_catT (by simp) (Tp.line_of (Nat.le_of_ble_eq_true rfl)) | exact Tp.ov_catL (by walk_at "Tp.len"))
local macro_rules | `(tactic| walk_at "Tp.mul") => `(tactic| first | exact Tp.ov_mul (by assumption) | exact Tp.ov_mul (Or.inr ⟨by decide, by decide⟩) | exact Tp.ov_mul (Or.inl ⟨by decide, by decide⟩) | exact Tp.ov_mul (Or.inr ⟨by omega, by omega⟩) | exact Tp.ov_mul (Or.inl ⟨by omega, by omega⟩))
local macro_rules | `(tactic| walk_at "Tp.div") => `(tactic| first | exact Tp.ov_divW (by assumption) | exact Tp.ov_div (by assumption) | exact Tp.ov_div ⟨by decide, by decide⟩ | exact Tp.ov_div ⟨by omega, by omega⟩ | exact Tp.ov_divW ⟨by decide, by decide⟩ | exact Tp.ov_div ⟨by walk_at "Tp.pre", by walk_at "Tp.pre"⟩)
local macro_rules | `(tactic| walk_at "Tp.pow") => `(tactic| first | exact Tp.ov_pow9 | exact Tp.ov_pow15 | exact Tp.ov_pow12 | exact Tp.ov_pow18 | exact Tp.ov_pow ⟨by omega, by omega, by omega⟩ rfl)
local macro_rules | `(tactic| walk_at "Tp.eq") => `(tactic| first | exact Tp.cv_eqI | exact Tp.cv_eqB | exact Tp.cv_eqS | exact Tp.cv_eqD (by have z := Tp.Go.un (by assumption); exact z) (by walk_at "Tp.shp") (by walk_at "Tp.shp"))
local macro_rules | `(tactic| walk_at "Tp.ne") => `(tactic| first | exact Tp.cv_neI | exact Tp.cv_neB | exact Tp.cv_neS | exact Tp.cv_neD (by have z := Tp.Go.un (by assumption); exact z) (by walk_at "Tp.shp") (by walk_at "Tp.shp"))
local macro_rules | `(tactic| walk_at "Tp.is") => `(tactic| first | exact Tp.cv_isN | exact Tp.cv_isB)
local macro_rules | `(tactic| walk_at "Tp.isnot") => `(tactic| first | exact Tp.cv_notN | exact Tp.cv_notB)
local macro_rules | `(tactic| walk_at "Tp.at") => `(tactic| first | rfl | exact Tp.atI_of (by decide) rfl | assumption | walk_at "Tp.fact" | exact Tp.atI_ints (ns := [_, _]) (by walk_at "Tp.pre") (by walk_at "Tp.pre") | exact Tp.atI_ints (by walk_at "Tp.pre") (by walk_at "Tp.pre") | exact Tp.atI_D (by walk_at "Tp.pre") (by walk_at "Tp.pre"))
local macro_rules | `(tactic| walk_at "Tp.rng") => `(tactic| first | decide | omega)
local macro_rules | `(tactic| walk_at "Tp.len") => `(tactic| first | assumption | decide | omega | exact Nat.le_of_ble_eq_true rfl | (simp only [List.length_append, List.length_map, List.length_cons, List.length_nil, List.length_take, List.length_reverse]; omega) | (simp only [List.length_append, List.length_map, List.length_cons, List.length_nil, List.length_take, List.length_reverse]; omega) | omega)
local macro_rules | `(tactic| walk_at "Tp.wk") => `(tactic| ((repeat (first | exact Tp.Wk.nil | refine Tp.Wk.same ?_ | refine Tp.Wk.no ?_ | refine Tp.Wk.lst ?_ | refine Tp.Wk.dct ?_ | refine Tp.Wk.tab ?_)); done))
local macro_rules | `(tactic| walk_at "Tp.start") => `(tactic| rfl)
local macro_rules | `(tactic| walk_at "Tp.nx") => `(tactic| (refine Tp.loop_nx (q' := ?q) ?w ?h; (case h => exact rfl)))
local macro_rules | `(tactic| walk_at "Tp.step") => `(tactic| first | (refine Tp.loop_nx (q' := ?q) ?w ?h; (case h => exact rfl); (case w => walk_at "Tp.wk")) | (refine Tp.loop_ct (q' := ?q) ?w ?h; (case h => exact rfl); (case w => walk_at "Tp.wk")))
local macro_rules | `(tactic| walk_at "Tp.ret") => `(tactic| first | exact hQ | assumption | (exfalso; (try walk_at "Tp.bool"); all_goals (first | contradiction | omega)))
local macro_rules | `(tactic| walk_at "Tp.cut") => `(tactic| first | assumption | decide | (intro h; simp [HT.sIx] at h) | (intro h; exact absurd h.1 (by decide)))
local macro_rules | `(tactic| walk_at "Tp.look") => `(tactic| first | rfl | assumption | walk_at "Tp.fact")
local macro_rules | `(tactic| walk_at "Tp.shp") => `(tactic| repeat (first | walk_at "Tp.fact" | exact Tp.Shp.int | exact Tp.Shp.bl | exact Tp.Shp.non | exact Tp.Shp.str (by decide +kernel) | exact Tp.ShpA.nil | refine Tp.Shp.tup ?_ | refine Tp.Shp.lst ?_ | refine Tp.ShpA.cons ?_ ?_ | assumption | refine Tp.ShpA.map (fun x => ?_) _))
local macro_rules | `(tactic| walk_at "Tp.exc") => `(tactic| first | exact hE | exact hE (by walk_at "Tp.pre"))
local macro_rules | `(tactic| walk_at "Tp.ixn") => `(tactic| first | rfl | exact Tp.ixN_D (by walk_at "Tp.pre") (by walk_at "Tp.pre"))
local macro_rules | `(tactic| walk_at "Tp.sm") => `(tactic| repeat (first | walk_at "Tp.fact" | exact Tp.Sm.int | exact Tp.Sm.bl | exact Tp.Sm.non | exact Tp.Sm.str | exact Tp.SmA.nil | refine Tp.Sm.tup (by walk_at "Tp.len") ?_ | refine Tp.SmA.cons ?_ ?_ | assumption | refine Tp.SmA.map (fun x => ?_) _))
local macro_rules | `(tactic| walk_at "Tp.nxE") => `(tactic| (refine Tp.loop_nx (q' := ?q) ?w (Exists.intro ?pp ?h); (case h => exact rfl)))
local macro_rules | `(tactic| walk_at "Tp.nx2") => `(tactic| (refine Tp.loop_nx (q' := ?q) ?w (And.intro ?le ?h); (case h => exact rfl)))
local macro_rules | `(tactic| walk_at "Tp.six") => `(tactic| first | rfl | assumption | walk_at "Tp.fact")
namespace Tp
open PySem L2
section
variable {P : Program} {w : World} {K : PySem.W.Frag} {mg : Str → Option Value} {base : Heap}
/-! _law_rows -/
theorem sc__law_rows : FnScope ["_law_script", "_law_count", "_law_rows_here", "_law_k", "_law_cell"] ["_law_script", "_law_count"] (defScope s__law_rows) := ⟨rfl, rfl, rfl, by decide +kernel, rfl, by decide +kernel, by decide +kernel⟩
theorem ok__law_rows {xs : Xs} {f : Addr} {fd : FuncData} (F : Fun K "_law_rows" "_law_rows" s__law_rows f fd) (T : Txt K mg xs) : FnOk P w K mg base (L2.CX P w) 1 f fd ["_law_script", "_law_count"] (spD [] K (c__law_rows xs)) := by
  refine fn_d F sc__law_rows (fun ds Q E h => by obtain ⟨_, _, rfl, _⟩ := h; rfl) fun cdv A outer s H H0 E qs ds Q Ex g hc => ?_
  obtain ⟨ns, n, rfl, ⟨hn0, hn1, hns⟩, hQ⟩ := hc
  show SV _ _ _ _ [.im (PyData.list (ns.map PyData.int)), .im (.int n), .no, .no, .no] _
  -- _law_rows_here = []
  refine sv_new 2 g (enLst eaN) fun p2_98 => ?_
  -- for _law_k in range(_law_count):
  refine sv_forR (fun i r' => ∃ R : List Int, r' = [.im (.list (ns.map PyData.int)), .im (.int n), .ol p2_98 (itD R), .no, .no] ∧ R.length = i ∧ ∀ x ∈ R, 0 ≤ x) (fun i r' => r'.set 3 (.im (.int (i : Int)))) g (evV 1 rfl) (by walk_at "Tp.rng") T.b_range (fun _ _ => gt_name 3 g.nd) ?_ (fun i r' hi hI => ?_) (fun r' hI => ?_)
  · exact ⟨[], rfl, rfl, fun x hx => nomatch hx⟩
  · obtain ⟨R, rfl, hRl, hR⟩ := hI
    have hil : (itD R).length ≤ 1000 := by unfold itD; rw [List.length_map]; omega
    -- _law_cell = 0
    refine sv_asg 4 g evI ?_
    refine sv_seqN 1 (fun r' => ∃ c : Int, r' = [.im (.list (ns.map PyData.int)), .im (.int n), .ol p2_98 (itD R), .im (.int (i : Int)), .im (.int c)]) ?_ (fun r' hI => ?_)
    · skip
      -- if len(_law_script) > 0:
      by_cases hl : 0 < ns.length
      · skip
        have hm0 := Int.emod_nonneg (i : Int) (show ((ns.map PyData.int).length : Int) ≠ 0 by rw [List.length_map]; omega)
        have hm1 := Int.emod_lt_of_pos (i : Int) (show 0 < ((ns.map PyData.int).length : Int) by rw [List.length_map]; omega)
        -- if len(_law_script) > 0:
        refine sv_ifT (etCmp (EV.h (evLen (by first | exact (evV 0 rfl).seqT | exact (evV 0 rfl).seq | exact esO 0 rfl | exact EV.seqQ (evV 0 rfl)) T.b_len)) (EV.h evI) cv_gt) ?_ (by exact decide_eq_true (by rw [List.length_map]; omega))
        -- _law_cell = int(_law_script[int(_law_k) % len(_law_script)])
        refine sv_asg 4 g (by first | exact evInt (evIx (by first | exact (evV 0 rfl).seqT | exact (evV 0 rfl).seq | exact esO 0 rfl | exact EV.seqQ (evV 0 rfl)) (evBin (by first | exact evInt (evV 3 rfl) T.b_int | exact evIntB (evV 3 rfl) T.b_int) (evLen (by first | exact (evV 0 rfl).seqT | exact (evV 0 rfl).seq | exact esO 0 rfl | exact EV.seqQ (evV 0 rfl)) T.b_len) (ov_mod (by walk_at "Tp.pre"))) (by walk_at "Tp.at")) T.b_int | exact evIntB (evIx (by first | exact (evV 0 rfl).seqT | exact (evV 0 rfl).seq | exact esO 0 rfl | exact EV.seqQ (evV 0 rfl)) (evBin (by first | exact evInt (evV 3 rfl) T.b_int | exact evIntB (evV 3 rfl) T.b_int) (evLen (by first | exact (evV 0 rfl).seqT | exact (evV 0 rfl).seq | exact esO 0 rfl | exact EV.seqQ (evV 0 rfl)) T.b_len) (ov_mod (by walk_at "Tp.pre"))) (by walk_at "Tp.at")) T.b_int) ?_
        refine sv_nil ?_
        show SV _ _ _ _ _ _
        refine sv_nil ?_
        exact ⟨_, rfl⟩
      · skip
        skip
        -- if len(_law_script) > 0:
        refine sv_ifF (etCmp (EV.h (evLen (by first | exact (evV 0 rfl).seqT | exact (evV 0 rfl).seq | exact esO 0 rfl | exact EV.seqQ (evV 0 rfl)) T.b_len)) (EV.h evI) cv_gt) ?_ (by exact decide_eq_false (by rw [List.length_map]; omega))
        refine sv_nil ?_
        show SV _ _ _ _ _ _
        refine sv_nil ?_
        exact ⟨_, rfl⟩
    · obtain ⟨c, rfl⟩ := hI
      refine sv_seqN 2 (fun r' => ∃ c : Int, 0 ≤ c ∧ r' = [.im (.list (ns.map PyData.int)), .im (.int n), .ol p2_98 (itD R), .im (.int (i : Int)), .im (.int c)]) ?_ (fun r' hI => ?_)
      · skip
        -- if _law_cell < 0:
        refine sv_ifI 4 g (etCmp (by first | exact (evV 4 rfl).h | exact (esO 4 rfl).h) (EV.h evI) cv_lt) rfl (fun h103 => (evBin (evBin evI (evBin evI (evV 4 rfl) (by walk_at "Tp.mul")) ov_sub) evI ov_sub)) ?_
        -- if _law_k >= len(_law_script) or _law_cell < 1000000000:
        have hc0 : 0 ≤ (if decide (c < 0) = true then 0 - 2 * c - 1 else c) := by
          by_cases hh : c < 0
          · rw [if_pos (decide_eq_true hh)]; omega
          · rw [if_neg (by simpa using hh)]; omega
        generalize (if decide (c < 0) = true then 0 - 2 * c - 1 else c) = c2 at hc0 ⊢
        refine sv_if (EW.t (ewOr (etCmp (by first | exact (evV 3 rfl).h | exact (esO 3 rfl).h) (EV.h (evLen (by first | exact (evV 0 rfl).seqT | exact (evV 0 rfl).seq | exact esO 0 rfl | exact EV.seqQ (evV 0 rfl)) T.b_len)) cv_ge) fun hb => (ewOr1 (etCmp (by first | exact (evV 4 rfl).h | exact (esO 4 rfl).h) (EV.h evI) cv_lt)))) (fun h105 => ?_) (fun h105 => ?_)
        · skip
          -- _law_cell = int((_law_cell + 137 * _law_k + 5) * 48271 + _law_k * _law_k * 69621 + 3) % 2147483647
          refine sv_asg 4 g (evBin (by first | exact evInt (evBin (evBin (evBin (evBin (evBin (evV 4 rfl) (evBin evI (evV 3 rfl) (by walk_at "Tp.mul")) (by walk_at "Tp.add")) evI (by walk_at "Tp.add")) evI (by walk_at "Tp.mul")) (evBin (evBin (evV 3 rfl) (evV 3 rfl) (by walk_at "Tp.mul")) evI (by walk_at "Tp.mul")) (by walk_at "Tp.add")) evI (by walk_at "Tp.add")) T.b_int | exact evIntB (evBin (evBin (evBin (evBin (evBin (evV 4 rfl) (evBin evI (evV 3 rfl) (by walk_at "Tp.mul")) (by walk_at "Tp.add")) evI (by walk_at "Tp.add")) evI (by walk_at "Tp.mul")) (evBin (evBin (evV 3 rfl) (evV 3 rfl) (by walk_at "Tp.mul")) evI (by walk_at "Tp.mul")) (by walk_at "Tp.add")) evI (by walk_at "Tp.add")) T.b_int) evI (ov_mod (by walk_at "Tp.pre"))) ?_
          -- _law_cell = int((_law_cell + 19 * _law_k + 1) * 3202034522624059733 + 7) % 18446744073709551557
          refine sv_asg 4 g (evBin (by first | exact evInt (evBin (evBin (evBin (evBin (evV 4 rfl) (evBin evI (evV 3 rfl) (by walk_at "Tp.mul")) (by walk_at "Tp.add")) evI (by walk_at "Tp.add")) evI (by walk_at "Tp.mul")) evI (by walk_at "Tp.add")) T.b_int | exact evIntB (evBin (evBin (evBin (evBin (evV 4 rfl) (evBin evI (evV 3 rfl) (by walk_at "Tp.mul")) (by walk_at "Tp.add")) evI (by walk_at "Tp.add")) evI (by walk_at "Tp.mul")) evI (by walk_at "Tp.add")) T.b_int) evI (ov_mod (by walk_at "Tp.pre"))) ?_
          refine sv_nil ?_
          show SV _ _ _ _ _ _
          refine sv_nil ?_
          first
          | exact ⟨_, by omega, rfl⟩
          | exact ⟨_, hc0, rfl⟩
        · skip
          refine sv_nil ?_
          show SV _ _ _ _ _ _
          refine sv_nil ?_
          first
          | exact ⟨_, by omega, rfl⟩
          | exact ⟨_, hc0, rfl⟩
      · obtain ⟨c, hc, rfl⟩ := hI
        -- _law_rows_here.append(_law_cell)
        refine sv_app 2 rfl (evV 4 rfl) (by walk_at "Tp.len") ?_
        refine sv_nil ?_
        rw [← itD_snoc]
        exact ⟨_, by walk_at "Tp.wk", R ++ [c], rfl, by rw [List.length_append, hRl]; rfl, fun x hx => (List.mem_append.mp hx).elim (hR x) fun z => (List.mem_singleton.mp z) ▸ hc⟩
  · obtain ⟨R, rfl, hRl, hR⟩ := hI
    -- return _law_rows_here
    refine sv_retO 2 rfl ?_
    show Q _
    exact hQ R (by omega) hR
end
end Tp
namespace Tp
open PySem L2
section
variable {P : Program} {w : World} {K : PySem.W.Frag} {mg : Str → Option Value} {base : Heap}
/-! check_purses -/
theorem sc_check_purses : FnScope ["purses", "parties", "party", "_", "amounts", "amount"] ["purses"] (defScope s_check_purses) := ⟨rfl, rfl, rfl, by decide +kernel, rfl, by decide +kernel, by decide +kernel⟩
theorem ok_check_purses {xs : Xs} {f : Addr} {fd : FuncData} (F : Fun K "check_purses" "check_purses" s_check_purses f fd) (T : Txt K mg xs) : FnOk P w K mg base (L2.CX P w) 1 f fd ["purses"] (spD [] K (c_check_purses xs)) := by
  refine fn_d F sc_check_purses (fun ds Q E h => by obtain ⟨_, rfl, _⟩ := h; rfl) fun cdv A outer s H H0 E qs ds Q Ex g hc => ?_
  obtain ⟨pu, rfl, hl9, hQ, hE1, hE2⟩ := hc
  show SV _ _ _ _ [.im (.list (pr2 pu)), .no, .no, .no, .no, .no] _
  have hlp : (pu.map (·.1)).length < 4000 := by rw [List.length_map]; omega
  have hlq : (pu.map (·.2)).length ≤ 100000 := by rw [List.length_map]; omega
  -- parties = [party for party, _ in purses]
  refine sv_asgLc 1 (evLcP 2 3 (L := pu) (ga := fun x => .int x.1) (gb := fun x => .int x.2) (f := fun x => .int x.1) g (by first | exact (evV 0 rfl).seqT | exact (evV 0 rfl).seq | exact esO 0 rfl | exact EV.seqQ (evV 0 rfl)) (by walk_at "Tp.len") (fun s1 H1 C1 cl1 fp1 B1 q1 d1 hd1 => (evV 2 rfl))) ?_
  rw [show pu.map (fun x => PyData.int x.1) = (pu.map (·.1)).map PyData.int from (List.map_map ..).symm]
  -- amounts = [amount for _, amount in purses]
  refine sv_asgLc 4 (evLcP 3 5 (L := pu) (ga := fun x => .int x.1) (gb := fun x => .int x.2) (f := fun x => .int x.2) g (by first | exact (evV 0 rfl).seqT | exact (evV 0 rfl).seq | exact esO 0 rfl | exact EV.seqQ (evV 0 rfl)) (by walk_at "Tp.len") (fun s2 H2 C2 cl2 fp2 B2 q2 d2 hd2 => (evV 5 rfl))) ?_
  rw [show pu.map (fun x => PyData.int x.2) = (pu.map (·.2)).map PyData.int from (List.map_map ..).symm]
  -- if len(purses) > MOST_PURSES or len(set(parties)) != len(parties):
  by_cases h1 : pu.length ≤ 50 ∧ (pu.map (·.1)).Nodup
  · skip
    skip
    -- if len(purses) > MOST_PURSES or len(set(parties)) != len(parties):
    refine sv_ifF (EW.t (ewOr (etCmp (EV.h (evLen (by first | exact (evV 0 rfl).seqT | exact (evV 0 rfl).seq | exact esO 0 rfl | exact EV.seqQ (evV 0 rfl)) T.b_len)) (EV.h T.k_MOST_PURSES) cv_gt) fun hb => (ewOr1 (etCmp (EV.h (evLenSetI (ns := pu.map (·.1)) g (evV 1 rfl) (by walk_at "Tp.len") T.b_len T.b_set)) (EV.h (evLen (by first | exact (evV 1 rfl).seqT | exact (evV 1 rfl).seq | exact esO 1 rfl | exact EV.seqQ (evV 1 rfl)) T.b_len)) (by walk_at "Tp.ne"))))) ?_ (by exact chk1 h1.1 h1.2)
    refine sv_nil ?_
    show SV _ _ _ _ _ _
    -- if not all([0 <= amount <= MOST_MONEY for amount in amounts]):
    by_cases h2 : ∀ x ∈ pu, 0 ≤ x.2 ∧ x.2 ≤ 1000000000000000
    · skip
      skip
      -- if not all([0 <= amount <= MOST_MONEY for amount in amounts]):
      refine sv_ifF (etNot (etV (evAllQ g (LcD.ev (evLcQ 5 (L := pu.map (·.2)) (gd := PyData.int) (pb := fun _ => true) (f := fun x => PyData.bool (decide (0 ≤ x) && decide (x ≤ 1000000000000000))) g (by first | exact (evV 4 rfl).seqT | exact (evV 4 rfl).seq | exact esO 4 rfl | exact EV.seqQ (evV 4 rfl)) (by walk_at "Tp.len") ltq_nil (fun s3 H3 C3 cl3 fp3 B3 q3 d3 hd3 hb3 => (evChain (EV.h evI) (by first | exact (evV 5 rfl).h | exact (esO 5 rfl).h) (EV.h T.k_MOST_MONEY) cv_le cv_le)))) T.b_all))) ?_ (by rw [List.filter_eq_self.mpr (fun _ _ => rfl)]; exact chk2 h2)
      refine sv_nil ?_
      show SV _ _ _ _ _ _
      -- if sum(amounts) > MOST_MONEY:
      have h3 : OkP1 pu := ⟨h1.1, h1.2, h2⟩
      by_cases h4 : smP pu ≤ 1000000000000000
      · skip
        skip
        -- if sum(amounts) > MOST_MONEY:
        refine sv_ifF (etCmp (EV.h (evSum g (evV 4 rfl) T.b_sum)) (EV.h T.k_MOST_MONEY) cv_gt) ?_ (by exact chk3 h4)
        refine sv_nil ?_
        show SV _ _ _ _ _ _
        refine sv_nil ?_
        exact hQ (goodP_of h3 h4)
      · skip
        skip
        -- if sum(amounts) > MOST_MONEY:
        refine sv_ifT (etCmp (EV.h (evSum g (evV 4 rfl) T.b_sum)) (EV.h T.k_MOST_MONEY) cv_gt) ?_ (by exact chk3x h4)
        -- raise TooMuchMoney('the purses have too much money')
        refine sv_raiseT g T.x_TooMuchMoney ?_
        exact hE2 h3 h4
    · skip
      skip
      -- if not all([0 <= amount <= MOST_MONEY for amount in amounts]):
      refine sv_ifT (etNot (etV (evAllQ g (LcD.ev (evLcQ 5 (L := pu.map (·.2)) (gd := PyData.int) (pb := fun _ => true) (f := fun x => PyData.bool (decide (0 ≤ x) && decide (x ≤ 1000000000000000))) g (by first | exact (evV 4 rfl).seqT | exact (evV 4 rfl).seq | exact esO 4 rfl | exact EV.seqQ (evV 4 rfl)) (by walk_at "Tp.len") ltq_nil (fun s4 H4 C4 cl4 fp4 B4 q4 d4 hd4 hb4 => (evChain (EV.h evI) (by first | exact (evV 5 rfl).h | exact (esO 5 rfl).h) (EV.h T.k_MOST_MONEY) cv_le cv_le)))) T.b_all))) ?_ (by rw [List.filter_eq_self.mpr (fun _ _ => rfl)]; exact chk2x h2)
      -- raise InvalidPurses('an amount is out of its bounds')
      refine sv_raiseT g T.x_InvalidPurses ?_
      exact hE1 (not_ok2 h2)
  · skip
    skip
    -- if len(purses) > MOST_PURSES or len(set(parties)) != len(parties):
    refine sv_ifT (EW.t (ewOr (etCmp (EV.h (evLen (by first | exact (evV 0 rfl).seqT | exact (evV 0 rfl).seq | exact esO 0 rfl | exact EV.seqQ (evV 0 rfl)) T.b_len)) (EV.h T.k_MOST_PURSES) cv_gt) fun hb => (ewOr1 (etCmp (EV.h (evLenSetI (ns := pu.map (·.1)) g (evV 1 rfl) (by walk_at "Tp.len") T.b_len T.b_set)) (EV.h (evLen (by first | exact (evV 1 rfl).seqT | exact (evV 1 rfl).seq | exact esO 1 rfl | exact EV.seqQ (evV 1 rfl)) T.b_len)) (by walk_at "Tp.ne"))))) ?_ (by exact chk1x h1)
    -- raise InvalidPurses('too many purses, or two of one party')
    refine sv_raiseT g T.x_InvalidPurses ?_
    exact hE1 (not_ok1 h1)
end
end Tp
namespace Tp
open PySem L2
section
variable {P : Program} {w : World} {K : PySem.W.Frag} {mg : Str → Option Value} {base : Heap}
/-! Book_init -/
theorem sc_Book_init : FnScope ["self", "purses", "party", "amount", ".gs"] ["self", "purses"] (defScope s_Book_init) := ⟨rfl, rfl, rfl, by decide +kernel, rfl, by decide +kernel, by decide +kernel⟩
theorem ok_Book_init {xs : Xs} {f : Addr} {fd : FuncData} (F : Fun K "__init__" "Book.__init__" s_Book_init f fd) (T : Txt K mg xs) : FnOk P w K mg base (L2.CX P w) 1 f fd ["self", "purses"] (spM [] K (c_Book_init xs)) := by
  refine fn_m 4 F sc_Book_init (fun its gr gl Q E h => by obtain ⟨_, _, _, rfl, _⟩ := h; rfl) (by decide) fun cdv A outer s H H0 E qs its gr gl Q Ex g hc => ?_
  obtain ⟨p, dx, pu, rfl, rfl, rfl, hpre, hQ⟩ := hc
  show SV _ _ _ _ [.rf p, .im (.list (pr2 pu)), .no, .no, .gs ([(p, .ob xs.Book dx [])])] _
  -- self.purses = {}
  refine sv_fldOb 4 (Ex := fun _ _ => False) (eoNK (iG := 4) enDct rfl) rfl (fun s gl' hs => ?_) (fun _ _ z => z.elim)
  obtain ⟨l_18, rfl, rfl⟩ := hs
  refine ⟨_, _, _, _, _, _, 0, rfl, (erV 0 rfl), rfl, T.cl_Book, T.na_Book_purses, Nat.le_of_ble_eq_true rfl, put_new (ks := []) rfl (by decide +kernel), ?_⟩
  show SV _ _ _ _ [_, _, _, _, _] _
  -- for party, amount in purses:
  refine sv_forL (fun i r' => r' = [.rf p, .im (.list (pr2 pu)), .no, .no, .gs [(p, .ob xs.Book dx [("purses", .rf l_18)]), (l_18, .dc (dcD (rcv (((pu.take i).foldl (fun m x => putI m x.1 x.2) [] : List (Int × Int))))))]]) (tq2 2 3) g (evV 1 rfl) (fun _ i d r' hi => gt_pair 2 3 g (pr2_pair hi)) ?_ (fun B1 i d r' hi hI => ?_) (fun r' hI => ?_)
  · rfl
  · obtain rfl := hI
    obtain ⟨x, hx, rfl⟩ := pr2_at hi
    have hl9 : (dcD (rcv (((pu.take i).foldl (fun m x => putI m x.1 x.2) [] : List (Int × Int))))).length < 100000 := by
      have h1 := ifold_len (pu.take i) []
      have h3 : (pu.take i).length ≤ pu.length := by rw [List.length_take]; exact Nat.min_le_right ..
      rw [dc_len]
      have : ([] : List (Int × Int)).length = 0 := rfl
      omega
    -- self.purses[party] = amount
    refine sv_putG 4 1 g (erFldI (erV 0 rfl) (inG_s 4 0 rfl rfl) ⟨lookup_at (k := 0) (ks := ["purses"]) rfl rfl (by decide +kernel), T.cl_Book, T.na_Book_purses⟩) rfl rfl (evV 3 rfl) (EV.key (evV 2 rfl)) (by walk_at "Tp.len") ?_
    refine sv_nil ?_
    rw [pt_gd, show putI (((pu.take i).foldl (fun m x => putI m x.1 x.2) [] : List (Int × Int))) x.1 x.2 = (((pu.take (i + 1)).foldl (fun m x => putI m x.1 x.2) [] : List (Int × Int))) from (take_fold (f := fun m x => putI m x.1 x.2) (s := []) hx).symm]
    exact ⟨_, by walk_at "Tp.wk", rfl⟩
  · obtain rfl := hI
    rw [pr2_len, List.take_length]
    refine SV.weak (q := [_, _, .no, .no, _]) (by walk_at "Tp.wk") ?_
    -- self.vaults = {}
    refine sv_fldOb 4 (Ex := fun _ _ => False) (eoNK (iG := 4) enDct rfl) rfl (fun s gl' hs => ?_) (fun _ _ z => z.elim)
    obtain ⟨l_21, rfl, rfl⟩ := hs
    refine ⟨_, _, _, _, _, _, 0, rfl, (erV 0 rfl), rfl, T.cl_Book, T.na_Book_vaults, Nat.le_of_ble_eq_true rfl, put_new (ks := ["purses"]) rfl (by decide +kernel), ?_⟩
    show SV _ _ _ _ [_, _, _, _, _] _
    -- self.receipts = {}
    refine sv_fldOb 4 (Ex := fun _ _ => False) (eoNK (iG := 4) enDct rfl) rfl (fun s gl' hs => ?_) (fun _ _ z => z.elim)
    obtain ⟨l_22, rfl, rfl⟩ := hs
    refine ⟨_, _, _, _, _, _, 0, rfl, (erV 0 rfl), rfl, T.cl_Book, T.na_Book_receipts, Nat.le_of_ble_eq_true rfl, put_new (ks := ["purses", "vaults"]) rfl (by decide +kernel), ?_⟩
    show SV _ _ _ _ [_, _, _, _, _] _
    -- self.ended = []
    refine sv_fldL 4 0 (enLst eaN) (fun _ => (erV 0 rfl)) rfl rfl T.cl_Book T.na_Book_ended (Nat.le_of_ble_eq_true rfl) (fun _ => put_new (ks := ["purses", "vaults", "receipts"]) rfl (by decide +kernel)) (fun l_23 => ?_)
    show SV _ _ _ _ [_, _, _, _, _] _
    -- self.done = []
    refine sv_fldL 4 0 (enLst eaN) (fun _ => (erV 0 rfl)) rfl rfl T.cl_Book T.na_Book_done (Nat.le_of_ble_eq_true rfl) (fun _ => put_new (ks := ["purses", "vaults", "receipts", "ended"]) rfl (by decide +kernel)) (fun l_24 => ?_)
    show SV _ _ _ _ [_, _, _, _, _] _
    -- self.height = 0
    refine sv_fld 4 0 evI (erV 0 rfl) rfl rfl T.cl_Book T.na_Book_height (Nat.le_of_ble_eq_true rfl) (put_new (ks := ["purses", "vaults", "receipts", "ended", "done"]) rfl (by decide +kernel)) ?_
    show SV _ _ _ _ [_, _, _, _, _] _
    -- self.burnt = 0
    refine sv_fld 4 0 evI (erV 0 rfl) rfl rfl T.cl_Book T.na_Book_burnt (Nat.le_of_ble_eq_true rfl) (put_new (ks := ["purses", "vaults", "receipts", "ended", "done", "height"]) rfl (by decide +kernel)) ?_
    refine sv_nil ?_
    show ∃ gl, _ = some (Sl.gs gl) ∧ Q _ gl
    refine ⟨_, rfl, ?_⟩
    exact hQ ⟨p, dx, l_18, l_21, l_22, l_23, l_24⟩ rfl
end
end Tp
namespace Tp
open PySem L2
section
variable {P : Program} {w : World} {K : PySem.W.Frag} {mg : Str → Option Value} {base : Heap}
/-! Ledger_init -/
theorem sc_Ledger_init : FnScope ["self", "purses", "room", ".gs"] ["self", "purses", "room"] (defScope s_Ledger_init) := ⟨rfl, rfl, rfl, by decide +kernel, rfl, by decide +kernel, by decide +kernel⟩
theorem ok_Ledger_init {xs : Xs} {f : Addr} {fd : FuncData} (F : Fun K "__init__" "Ledger.__init__" s_Ledger_init f fd) (T : Txt K mg xs) (C_check_purses : Cal P w [] K mg base "check_purses" 1 (c_check_purses xs)) (M_Book_init_0 : MakM P w [] K mg base "Book" xs.Book 1 (c_Book_init xs) 1 [] (fun a b => a ++ (b ++ []))) : FnOk P w K mg base (L2.CX P w) 3 f fd ["self", "purses", "room"] (spM [] K (c_Ledger_init xs)) := by
  refine fn_m 3 F sc_Ledger_init (fun its gr gl Q E h => by obtain ⟨_, _, _, _, rfl, _⟩ := h; rfl) (by decide) fun cdv A outer s H H0 E qs its gr gl Q Ex g hc => ?_
  obtain ⟨p, dx, pu, rm, rfl, rfl, rfl, hl9, hQ, hE1, hE2, hE3⟩ := hc
  show SV _ _ _ _ [.rf p, .im (.list (pr2 pu)), .im (.int rm), .gs ([(p, .ob xs.Ledger dx [])])] _
  -- check_purses(purses)
  by_cases h1 : OkP1 pu
  · skip
    skip
    -- check_purses(purses)
    by_cases h2 : smP pu ≤ 1000000000000000
    · skip
      skip
      -- check_purses(purses)
      refine sv_dropC (Po := fun _ => True) (Ex := fun _ => False) (ecCall g C_check_purses (by decide) (eaC (evV 1 rfl) eaN) ⟨pu, rfl, hl9, fun _ => trivial, fun z => absurd h1 z, fun _ z => absurd h2 z⟩) ?_ (fun _ z => z.elim)
      show SV _ _ _ _ [_, _, _, _] _
      -- if not 1 <= room <= MOST_ROOM:
      have hg : GoodP pu := goodP_of h1 h2
      by_cases h3 : 1 ≤ rm ∧ rm ≤ 200
      · skip
        obtain ⟨h3a, h3b⟩ := id h3
        -- if not 1 <= room <= MOST_ROOM:
        refine sv_ifF (etNot (etChain (EV.h evI) (by first | exact (evV 2 rfl).h | exact (esO 2 rfl).h) (EV.h T.k_MOST_ROOM) cv_le cv_le)) ?_ (by exact room_f h3)
        refine sv_nil ?_
        show SV _ _ _ _ _ _
        -- self.book = Book(purses)
        refine sv_fldOb 3 (Po := fun s_ gl' => ∃ A : Ba, s_ = .rf A.p ∧ gl' = bkG xs.Book xs.Book A (b0 pu) ++ [(p, .ob xs.Ledger dx [])]) (Ex := fun _ _ => False) (eoMakeM 3 g M_Book_init_0 (by decide) rfl perm_n (eaiD (evV 1 rfl) eaiN) ekiN (gr := []) (fun _ h => nomatch h) (Po2 := fun s_ gl' => ∃ A : Ba, s_ = .rf A.p ∧ gl' = bkG xs.Book xs.Book A (b0 pu)) (fun q dq => ⟨q, dq, pu, rfl, rfl, rfl, by have := hg.1; omega, fun A hA => ⟨rfl, A, by rw [hA], rfl⟩⟩) (fun s g h => by obtain ⟨A, rfl, rfl⟩ := h; exact ⟨A, rfl, rfl⟩) (fun _ _ z => z.elim) (Ex2 := fun _ _ => False)) rfl (fun s gl' hs => ?_) (fun _ _ z => z.elim)
        obtain ⟨A, rfl, rfl⟩ := hs
        refine ⟨_, _, _, _, _, _, 6, rfl, (erV 0 rfl), rfl, T.cl_Ledger, T.na_Ledger_book, Nat.le_of_ble_eq_true rfl, put_new (ks := []) rfl (by decide +kernel), ?_⟩
        show SV _ _ _ _ [_, _, _, _] _
        -- self.room = room
        skip
        · skip
          skip
          -- self.room = room
          refine sv_fld 3 6 (evV 2 rfl) (erV 0 rfl) rfl rfl T.cl_Ledger T.na_Ledger_room (Nat.le_of_ble_eq_true rfl) (put_new (ks := ["book"]) rfl (by decide +kernel)) ?_
          show SV _ _ _ _ [_, _, _, _] _
          -- self.waiting = []
          refine sv_fldL 3 6 (enLst eaN) (fun _ => (erV 0 rfl)) rfl rfl T.cl_Ledger T.na_Ledger_waiting (Nat.le_of_ble_eq_true rfl) (fun _ => put_new (ks := ["book", "room"]) rfl (by decide +kernel)) (fun l_56 => ?_)
          refine sv_perm 3 rfl (gl' := lgG xs.Ledger xs.Book xs.Book ⟨p, dx, l_56⟩ A rm (b0 pu) []) (List.perm_append_comm (l₁ := bkG xs.Book xs.Book A (b0 pu)) (l₂ := [(p, .ob xs.Ledger dx (lgF ⟨p, dx, l_56⟩ A rm)), (l_56, .ls [])])) ?_
          refine sv_nil ?_
          show ∃ gl, _ = some (Sl.gs gl) ∧ Q _ gl
          refine ⟨_, rfl, ?_⟩
          exact hQ hg h3 ⟨p, dx, l_56⟩ A rfl
      · skip
        skip
        -- if not 1 <= room <= MOST_ROOM:
        refine sv_ifT (etNot (etChain (EV.h evI) (by first | exact (evV 2 rfl).h | exact (esO 2 rfl).h) (EV.h T.k_MOST_ROOM) cv_le cv_le)) ?_ (by exact room_t h3)
        -- raise OutOfBounds('room is from 1 to 200')
        refine sv_raiseT g T.x_OutOfBounds ?_
        exact ⟨_, rfl, hE3 hg h3 _⟩
    · skip
      skip
      -- check_purses(purses)
      refine sv_dropX (Ex := fun C => C = xs.TooMuchMoney) (EC.exc (ecCall g C_check_purses (by decide) (eaC (evV 1 rfl) eaN) ⟨pu, rfl, hl9, fun z => absurd z.2.2.2 h2, fun z => absurd h1 z, fun _ _ => rfl⟩)) (fun C hC => ?_)
      subst hC
      exact ⟨_, rfl, hE2 h1 h2 _⟩
  · skip
    skip
    -- check_purses(purses)
    refine sv_dropX (Ex := fun C => C = xs.InvalidPurses) (EC.exc (ecCall g C_check_purses (by decide) (eaC (evV 1 rfl) eaN) ⟨pu, rfl, hl9, fun z => absurd ⟨z.1, z.2.1, z.2.2.1⟩ h1, fun _ => rfl, fun z => absurd z h1⟩)) (fun C hC => ?_)
    subst hC
    exact ⟨_, rfl, hE1 h1 _⟩
end
end Tp
namespace Tp
open PySem L2
section
variable {P : Program} {w : World} {K : PySem.W.Frag} {mg : Str → Option Value} {base : Heap}
/-! _law_made -/
theorem sc__law_made : FnScope ["_law_purses", "_law_room", "_law_ledger", "_law_book", "_law_party", ".gs"] ["_law_purses", "_law_room"] (defScope s__law_made) := ⟨rfl, rfl, rfl, by decide +kernel, rfl, by decide +kernel, by decide +kernel⟩
theorem ok__law_made {xs : Xs} {f : Addr} {fd : FuncData} (F : Fun K "_law_made" "_law_made" s__law_made f fd) (T : Txt K mg xs) (M_Ledger_init_0 : MakM P w [] K mg base "Ledger" xs.Ledger 3 (c_Ledger_init xs) 1 ["room"] (fun a b => a ++ (b ++ []))) : FnOk P w K mg base (L2.CX P w) 5 f fd ["_law_purses", "_law_room"] (spM [] K (c__law_made xs)) := by
  refine fn_m 5 F sc__law_made (fun its gr gl Q E h => by obtain ⟨_, _, rfl, _⟩ := h; rfl) (by decide) fun cdv A outer s H H0 E qs its gr gl Q Ex g hc => ?_
  obtain ⟨pu, rm, rfl, rfl, rfl, hpre, hQ⟩ := hc
  show SV _ _ _ _ [.im (.list (pr2 pu)), .im (.int rm), .no, .no, .no, .gs ([])] _
  -- try:
  refine sv_try g (fun pn xe W1 g5 => ?_) (HdsD.cons ⟨rfl, by decide, Or.inl T.x_InvalidPurses.gC⟩ (HdsD.cons ⟨rfl, by decide, Or.inl T.x_TooMuchMoney.gC⟩ (HdsD.cons ⟨rfl, by decide, Or.inl T.x_OutOfBounds.gC⟩ (HdsD.cons ⟨rfl, by decide, Or.inl T.x_TurnpikeError.gC⟩ HdsD.nil))))
  -- _law_ledger = Ledger(_law_purses, room=_law_room)
  by_cases h1 : OkP1 pu
  · skip
    skip
    -- _law_ledger = Ledger(_law_purses, room=_law_room)
    by_cases h2 : smP pu ≤ 1000000000000000
    · skip
      have hg : GoodP pu := goodP_of h1 h2
      -- _law_ledger = Ledger(_law_purses, room=_law_room)
      by_cases h3 : 1 ≤ rm ∧ rm ≤ 200
      · skip
        skip
        -- _law_ledger = Ledger(_law_purses, room=_law_room)
        refine sv_asgO 2 5 g5 (Po := fun s_ gl' => ∃ (Z : La) (A : Ba), s_ = .rf Z.p ∧ gl' = (lgG xs.Ledger xs.Book xs.Book Z A rm (b0 pu) []) ++ []) (Ex := fun _ _ => False) (eoMakeM 5 g5 M_Ledger_init_0 (by decide) rfl perm_n (eaiD (evV 0 rfl) eaiN) (ekiD (evV 1 rfl) ekiN) (gr := []) (fun _ h => nomatch h) (Po2 := fun s_ gl' => ∃ (Z : La) (A : Ba), s_ = .rf Z.p ∧ gl' = (lgG xs.Ledger xs.Book xs.Book Z A rm (b0 pu) [])) (fun p dx => ⟨p, dx, pu, rm, rfl, rfl, rfl, by omega, fun _ _ Z A hZ => ⟨rfl, Z, A, by rw [hZ], rfl⟩, fun z => absurd h1 z, fun _ z => absurd h2 z, fun _ z => absurd h3 z⟩) (fun s g h => by obtain ⟨Z, A, rfl, rfl⟩ := h; exact ⟨Z, A, rfl, rfl⟩) (fun _ _ z => z.elim) (Ex2 := fun _ _ => False)) (fun s gl' hs => ?_) (fun _ _ z => z.elim)
        obtain ⟨Z, A, rfl, rfl⟩ := hs
        rw [List.append_nil]
        have hbp : (b0 pu).pu = pu := b0_pu h1.2.1
        have hnm : NdM (b0 pu).pu := ndm_b0 pu
        have hlk1 : (dcD (rcv (b0 pu).pu)).length ≤ 1000 := by rw [dc_len, hbp]; omega
        refine sv_nil ?_
        show SV _ _ _ _ _ _
        -- _law_book = _law_ledger.book
        refine sv_asgR 3 g (erFldI (erV 2 rfl) (inG_s 5 0 rfl rfl) ⟨lookup_at (k := 0) (ks := ["book", "room", "waiting"]) rfl rfl (by decide +kernel), T.cl_Ledger, T.na_Ledger_book⟩) ?_
        show SV _ _ _ _ [_, _, _, _, _, _] _
        -- if [(_law_party, _law_book.purses[_law_party]) for _law_party in _law_book.purses] != _law_purses or
        refine sv_ifF (EW.t (ewOr (etCmp (EV.h (EV.to (evLcK 4 5 3 (pb := fun _ => true) (fd := fdQ (b0 pu).pu) g rfl rfl (fun _ => (erFldI (erV 3 rfl) (inG_s 5 2 rfl rfl) ⟨lookup_at (k := 0) (ks := ["purses", "vaults", "receipts", "ended", "done", "height", "burnt"]) rfl rfl (by decide +kernel), T.cl_Book, T.na_Book_purses⟩)) (by walk_at "Tp.len") ltq_nil (fun s6 H6 C6 cl6 fp6 B6 q6 d6 hd6 hb6 => (by obtain ⟨x9, hx9, rfl⟩ := rc_mem hd6; have hlk := gd_nd hnm hx9; rw [fdQ_x hnm hx9]; exact (evTup (eaC (evV 4 rfl) (eaC (evEDix (Go.blk g) (eddF (erFldI (erV 3 rfl) (inG_s 5 2 rfl rfl) ⟨lookup_at (k := 0) (ks := ["purses", "vaults", "receipts", "ended", "done", "height", "burnt"]) rfl rfl (by decide +kernel), T.cl_Book, T.na_Book_purses⟩) (.inl List.mem_cons_self)) (EV.key (evV 4 rfl)) hlk) eaN)))))) ((fdQ_all hnm).trans (by rw [hbp])))) (by first | exact (evV 0 rfl).h | exact (esO 0 rfl).h) (by walk_at "Tp.ne")) fun hb => (ewOr1 (etCmp (EV.h (evFld 5 0 (erV 2 rfl) rfl rfl ⟨lookup_at (k := 1) (ks := ["book", "room", "waiting"]) rfl rfl (by decide +kernel), T.cl_Ledger, T.na_Ledger_room⟩)) (by first | exact (evV 1 rfl).h | exact (esO 1 rfl).h) (by walk_at "Tp.ne"))))) ?_ (by rw [eqv_same (d := .list (pr2 pu)) (n := 64) (shp_pr _ 62), decide_eq_true rfl]; rfl)
        refine sv_nil ?_
        show SV _ _ _ _ _ _
        -- if _law_book.vaults != {} or _law_book.receipts != {} or _law_book.ended != [] or (_law_book.done !=
        refine sv_ifF (EW.t (ewOr (etDne g (EK.dcI (erFldI (erV 3 rfl) (inG_s 5 2 rfl rfl) ⟨lookup_at (k := 1) (ks := ["purses", "vaults", "receipts", "ended", "done", "height", "burnt"]) rfl rfl (by decide +kernel), T.cl_Book, T.na_Book_vaults⟩) (inG_s 5 4 rfl rfl)) (EV.dct (ps := []) evDct0) rfl (fun _ h => nomatch h)) fun hb => (ewOr (etDne g (EK.dcI (erFldI (erV 3 rfl) (inG_s 5 2 rfl rfl) ⟨lookup_at (k := 2) (ks := ["purses", "vaults", "receipts", "ended", "done", "height", "burnt"]) rfl rfl (by decide +kernel), T.cl_Book, T.na_Book_receipts⟩) (inG_s 5 5 rfl rfl)) (EV.dct (ps := []) evDct0) rfl (fun _ h => nomatch h)) fun hb => (ewOr (etCmp (ES.h (ER.list 5 6 (erFld 5 2 (erV 3 rfl) rfl rfl ⟨lookup_at (k := 3) (ks := ["purses", "vaults", "receipts", "ended", "done", "height", "burnt"]) rfl rfl (by decide +kernel), T.cl_Book, T.na_Book_ended⟩) rfl rfl)) (EV.h (evLst eaN)) (by walk_at "Tp.ne")) fun hb => (ewOr (etCmp (ES.h (ER.list 5 7 (erFld 5 2 (erV 3 rfl) rfl rfl ⟨lookup_at (k := 4) (ks := ["purses", "vaults", "receipts", "ended", "done", "height", "burnt"]) rfl rfl (by decide +kernel), T.cl_Book, T.na_Book_done⟩) rfl rfl)) (EV.h (evLst eaN)) (by walk_at "Tp.ne")) fun hb => (ewOr1 (etCmp (ES.h (ER.list 5 1 (erFld 5 0 (erV 2 rfl) rfl rfl ⟨lookup_at (k := 2) (ks := ["book", "room", "waiting"]) rfl rfl (by decide +kernel), T.cl_Ledger, T.na_Ledger_waiting⟩) rfl rfl)) (EV.h (evLst eaN)) (by walk_at "Tp.ne")))))))) ?_
        refine sv_nil ?_
        show SV _ _ _ _ _ _
        -- return 'made' if _law_book.height == 0 and _law_book.burnt == 0 else 'wrong'
        refine sv_ret (EV.to (evIfD (EW.t (ewAnd (etCmp (EV.h (evFld 5 2 (erV 3 rfl) rfl rfl ⟨lookup_at (k := 5) (ks := ["purses", "vaults", "receipts", "ended", "done", "height", "burnt"]) rfl rfl (by decide +kernel), T.cl_Book, T.na_Book_height⟩)) (EV.h evI) (by walk_at "Tp.eq")) fun hb => (ewAnd1 (etCmp (EV.h (evFld 5 2 (erV 3 rfl) rfl rfl ⟨lookup_at (k := 6) (ks := ["purses", "vaults", "receipts", "ended", "done", "height", "burnt"]) rfl rfl (by decide +kernel), T.cl_Book, T.na_Book_burnt⟩)) (EV.h evI) (by walk_at "Tp.eq"))))) (fun hb => evStr) (fun hb => evStr)) (show (if (decide ((b0 pu).ht = 0) && decide ((b0 pu).bu = 0)) = true then PyData.str "made" else .str "wrong") = .str "made" from if_pos rfl)) ?_
        show isO _ = true ∧ ∃ gl, _ = some (Sl.gs gl) ∧ Q _ gl
        refine ⟨rfl, _, rfl, ?_⟩
        rw [due_4 h1 h2 h3] at hQ
        exact hQ _
      · skip
        skip
        -- _law_ledger = Ledger(_law_purses, room=_law_room)
        refine sv_asgO 2 5 g5 (Po := fun _ _ => False) (Ex := fun C gl' => C = xs.OutOfBounds ∧ ∃ g', gl' = g' ++ []) (eoMakeM 5 g5 M_Ledger_init_0 (by decide) rfl perm_n (eaiD (evV 0 rfl) eaiN) (ekiD (evV 1 rfl) ekiN) (gr := []) (fun _ h => nomatch h) (Po2 := fun _ _ => False) (Ex2 := fun C g => C = xs.OutOfBounds) (fun p dx => ⟨p, dx, pu, rm, rfl, rfl, rfl, by omega, fun _ z => absurd z h3, fun z => absurd h1 z, fun _ z => absurd h2 z, fun _ _ _ => rfl⟩) (fun _ _ z => z.elim) (fun C g' h => ⟨h, g', rfl⟩)) (fun _ _ hs => hs.elim) (fun C gl' hC => ?_)
        obtain ⟨rfl, g9, rfl⟩ := hC
        refine Or.inr ⟨XcT.exm T.x_InvalidPurses T.s_OutOfBounds_InvalidPurses, ?_⟩
        refine Or.inr ⟨XcT.exm T.x_TooMuchMoney T.s_OutOfBounds_TooMuchMoney, ?_⟩
        refine Or.inl ⟨XcT.exm T.x_OutOfBounds T.s_OutOfBounds_OutOfBounds, fun a oe pn hs => ?_⟩
        show SV _ _ _ _ _ _
        -- return 'room'
        refine sv_ret evStr ?_
        show isO _ = true ∧ ∃ gl, _ = some (Sl.gs gl) ∧ Q _ gl
        refine ⟨rfl, _, rfl, ?_⟩
        rw [due_3 h1 h2 h3] at hQ
        exact hQ _
    · skip
      skip
      -- _law_ledger = Ledger(_law_purses, room=_law_room)
      refine sv_asgO 2 5 g5 (Po := fun _ _ => False) (Ex := fun C gl' => C = xs.TooMuchMoney ∧ ∃ g', gl' = g' ++ []) (eoMakeM 5 g5 M_Ledger_init_0 (by decide) rfl perm_n (eaiD (evV 0 rfl) eaiN) (ekiD (evV 1 rfl) ekiN) (gr := []) (fun _ h => nomatch h) (Po2 := fun _ _ => False) (Ex2 := fun C g => C = xs.TooMuchMoney) (fun p dx => ⟨p, dx, pu, rm, rfl, rfl, rfl, by omega, fun z => absurd z.2.2.2 h2, fun z => absurd h1 z, fun _ _ _ => rfl, fun z => absurd z.2.2.2 h2⟩) (fun _ _ z => z.elim) (fun C g' h => ⟨h, g', rfl⟩)) (fun _ _ hs => hs.elim) (fun C gl' hC => ?_)
      obtain ⟨rfl, g9, rfl⟩ := hC
      refine Or.inr ⟨XcT.exm T.x_InvalidPurses T.s_TooMuchMoney_InvalidPurses, ?_⟩
      refine Or.inl ⟨XcT.exm T.x_TooMuchMoney T.s_TooMuchMoney_TooMuchMoney, fun a oe pn hs => ?_⟩
      show SV _ _ _ _ _ _
      -- return 'money'
      refine sv_ret evStr ?_
      show isO _ = true ∧ ∃ gl, _ = some (Sl.gs gl) ∧ Q _ gl
      refine ⟨rfl, _, rfl, ?_⟩
      rw [due_2 h1 h2] at hQ
      exact hQ _
  · skip
    skip
    -- _law_ledger = Ledger(_law_purses, room=_law_room)
    refine sv_asgO 2 5 g5 (Po := fun _ _ => False) (Ex := fun C gl' => C = xs.InvalidPurses ∧ ∃ g', gl' = g' ++ []) (eoMakeM 5 g5 M_Ledger_init_0 (by decide) rfl perm_n (eaiD (evV 0 rfl) eaiN) (ekiD (evV 1 rfl) ekiN) (gr := []) (fun _ h => nomatch h) (Po2 := fun _ _ => False) (Ex2 := fun C g => C = xs.InvalidPurses) (fun p dx => ⟨p, dx, pu, rm, rfl, rfl, rfl, by omega, fun z => absurd ⟨z.1, z.2.1, z.2.2.1⟩ h1, fun _ _ => rfl, fun z => absurd z h1, fun z => absurd ⟨z.1, z.2.1, z.2.2.1⟩ h1⟩) (fun _ _ z => z.elim) (fun C g' h => ⟨h, g', rfl⟩)) (fun _ _ hs => hs.elim) (fun C gl' hC => ?_)
    obtain ⟨rfl, g9, rfl⟩ := hC
    refine Or.inl ⟨XcT.exm T.x_InvalidPurses T.s_InvalidPurses_InvalidPurses, fun a oe pn hs => ?_⟩
    show SV _ _ _ _ _ _
    -- return 'purses'
    refine sv_ret evStr ?_
    show isO _ = true ∧ ∃ gl, _ = some (Sl.gs gl) ∧ Q _ gl
    refine ⟨rfl, _, rfl, ?_⟩
    rw [due_1 h1] at hQ
    exact hQ _
end
end Tp
namespace Tp
open PySem L2
section
variable {P : Program} {w : World} {K : PySem.W.Frag} {mg : Str → Option Value} {base : Heap}
/-! _law_due -/
theorem sc__law_due : FnScope ["_law_purses", "_law_room", "_law_parties", "_law_pair", "_law_k", "_law_money", "_law_party", "_law_amount"] ["_law_purses", "_law_room"] (defScope s__law_due) := ⟨rfl, rfl, rfl, by decide +kernel, rfl, by decide +kernel, by decide +kernel⟩
theorem ok__law_due {xs : Xs} {f : Addr} {fd : FuncData} (F : Fun K "_law_due" "_law_due" s__law_due f fd) (T : Txt K mg xs) : FnOk P w K mg base (L2.CX P w) 1 f fd ["_law_purses", "_law_room"] (spD [] K (c__law_due xs)) := by
  refine fn_d F sc__law_due (fun ds Q E h => by obtain ⟨_, _, rfl, _⟩ := h; rfl) fun cdv A outer s H H0 E qs ds Q Ex g hc => ?_
  obtain ⟨pu, rm, rfl, hpre, hQ⟩ := hc
  show SV _ _ _ _ [.im (.list (pr2 pu)), .im (.int rm), .no, .no, .no, .no, .no, .no] _
  have hlp : (pr2 pu).length ≤ 1000 := by rw [pr2_len]; omega
  have hlq : ((pu.map (·.1)).map PyData.int).length = pu.length := by rw [List.length_map, List.length_map]
  -- _law_parties = [_law_pair[0] for _law_pair in _law_purses]
  refine sv_asgLc 2 (evLcQ 3 (L := pu) (gd := fun x => .tuple [.int x.1, .int x.2]) (pb := fun _ => true) (f := fun x => .int x.1) g (by first | exact (evV 0 rfl).seqT | exact (evV 0 rfl).seq | exact esO 0 rfl | exact EV.seqQ (evV 0 rfl)) (by walk_at "Tp.len") ltq_nil (fun s7 H7 C7 cl7 fp7 B7 q7 d7 hd7 hb7 => (evIx (by first | exact (evV 3 rfl).seqT | exact (evV 3 rfl).seq | exact esO 3 rfl | exact EV.seqQ (evV 3 rfl)) evI (by walk_at "Tp.at")))) ?_
  rw [show (pu.filter fun _ => true) = pu from List.filter_eq_self.mpr fun _ _ => rfl, show pu.map (fun x => PyData.int x.1) = (pu.map (·.1)).map PyData.int from (List.map_map ..).symm]
  -- for _law_k in range(len(_law_parties)):
  refine sv_forR (fun i r' => ∃ x4 : Sl, r' = [.im (.list (pr2 pu)), .im (.int rm), .im (.list ((pu.map (·.1)).map PyData.int)), .no, x4, .no, .no, .no] ∧ ((pu.map (·.1)).take i).Nodup) (fun i r' => r'.set 4 (.im (.int (i : Int)))) g (evLen (by first | exact (evV 2 rfl).seqT | exact (evV 2 rfl).seq | exact esO 2 rfl | exact EV.seqQ (evV 2 rfl)) T.b_len) (by walk_at "Tp.rng") T.b_range (fun _ _ => gt_name 4 g.nd) ?_ (fun i r' hi hI => ?_) (fun r' hI => ?_)
  · exact ⟨_, rfl, List.nodup_nil⟩
  · obtain ⟨x4, rfl, hnd⟩ := hI
    obtain ⟨v, hv⟩ : ∃ v, (pu.map (·.1))[i]? = some v := ⟨_, List.getElem?_eq_getElem (by rw [List.length_map]; rw [hlq] at hi; omega)⟩
    have hatv : atI ((pu.map (·.1)).map PyData.int) (i : Int) = some (.int v) := atI_nat (by rw [List.getElem?_map, hv]; rfl)
    -- if _law_parties[_law_k] in _law_parties[:_law_k]:
    refine sv_ifX (etCmp (EV.h (evIx (by first | exact (evV 2 rfl).seqT | exact (evV 2 rfl).seq | exact esO 2 rfl | exact EV.seqQ (evV 2 rfl)) (evV 4 rfl) (by walk_at "Tp.at"))) (EV.h (EV.to (evSlL (by first | exact (evV 2 rfl).seqT | exact (evV 2 rfl).seq | exact esO 2 rfl | exact EV.seqQ (evV 2 rfl)) eoN (eoS (evV 4 rfl))) (show PyData.list (cutD ((pu.map (·.1)).map PyData.int) none (some (i : Int))) = .list (((pu.map (·.1)).take i).map fun x => PyData.int x) from by rw [cut_to (by omega), ← List.map_take]; rfl))) (by first | exact cv_inI (f := fun x : Int => x) g | exact cv_inD g.un65 (by walk_at "Tp.shp") (by walk_at "Tp.shp") | exact cv_inT g.un65 (by walk_at "Tp.shp") (by walk_at "Tp.shp"))) (fun h130 => ?_) (fun h130 => ?_)
    · skip
      -- return 'purses'
      refine sv_ret evStr ?_
      show Q _
      obtain ⟨y, hy, e⟩ := List.any_eq_true.mp h130
      have e := of_decide_eq_true e
      rw [due_1 fun z => nodup_not hv (e ▸ hy) z.2.1] at hQ
      exact hQ
    · skip
      refine sv_nil ?_
      exact ⟨_, by walk_at "Tp.wk", _, rfl, nodup_take hnd hv fun z => absurd (List.any_eq_true.mpr ⟨v, z, decide_eq_true rfl⟩) (by rw [h130]; exact Bool.false_ne_true)⟩
  · obtain ⟨x4, rfl, hnd⟩ := hI
    rw [show (((pu.map (·.1)).map PyData.int).length : Int).toNat = (pu.map (·.1)).length from by rw [List.length_map]; exact Int.toNat_natCast _, List.take_length] at hnd
    -- if len(_law_purses) > 50:
    refine sv_ifX (etCmp (EV.h (evLen (by first | exact (evV 0 rfl).seqT | exact (evV 0 rfl).seq | exact esO 0 rfl | exact EV.seqQ (evV 0 rfl)) T.b_len)) (EV.h evI) cv_gt) (fun h132 => ?_) (fun h132 => ?_)
    · skip
      -- return 'purses'
      refine sv_ret evStr ?_
      show Q _
      rw [due_1 fun z => absurd z.1 (by have := of_decide_eq_true h132; rw [pr2_len] at this; omega)] at hQ
      exact hQ
    · skip
      -- _law_money = 0
      refine sv_asg 5 g evI ?_
      -- for _law_party, _law_amount in _law_purses:
      refine sv_forL (fun i r' => ∃ x6 x7 : Sl, r' = [.im (.list (pr2 pu)), .im (.int rm), .im (.list ((pu.map (·.1)).map PyData.int)), .no, x4, .im (.int (smP (pu.take i))), x6, x7] ∧ ∀ x ∈ pu.take i, 0 ≤ x.2 ∧ x.2 ≤ 1000000000000000) (tq2 6 7) g (evV 0 rfl) (fun _ i d r' hi => gt_pair 6 7 g (by obtain ⟨u, _, e⟩ := pr2_at hi; exact ⟨_, _, e⟩)) ?_ (fun B1 i d r' hi hI => ?_) (fun r' hI => ?_)
      · exact ⟨_, _, rfl, fun _ h => nomatch h⟩
      · obtain ⟨x6, x7, rfl, hbo⟩ := hI
        obtain ⟨x, hx, rfl⟩ := pr2_at hi
        -- if _law_amount < 0 or _law_amount > 1000000000000000:
        refine sv_ifX (EW.t (ewOr (etCmp (by first | exact (evV 7 rfl).h | exact (esO 7 rfl).h) (EV.h evI) cv_lt) fun hb => (ewOr1 (etCmp (by first | exact (evV 7 rfl).h | exact (esO 7 rfl).h) (EV.h evI) cv_gt)))) (fun h136 => ?_) (fun h136 => ?_)
        · skip
          -- return 'purses'
          refine sv_ret evStr ?_
          show Q _
          rw [due_1 fun z => by
            have hz := z.2.2 x (List.mem_of_getElem? hx)
            rw [Bool.or_eq_true] at h136
            rcases h136 with k | k
            · have := of_decide_eq_true k; omega
            · have := of_decide_eq_true k; omega] at hQ
          exact hQ
        · skip
          -- _law_money = _law_money + _law_amount
          refine sv_asg 5 g (evBin (evV 5 rfl) (evV 7 rfl) (by walk_at "Tp.add")) ?_
          refine sv_nil ?_
          refine ⟨[.im (.list (pr2 pu)), .im (.int rm), .im (.list ((pu.map (·.1)).map PyData.int)), .no, x4, .im (.int (smP (pu.take i) + x.2)), .im (.int x.1), .im (.int x.2)], by walk_at "Tp.wk", _, _, by rw [smP_t hx], fun y hy => ?_⟩
          rw [List.take_succ, hx] at hy
          rcases List.mem_append.mp hy with hy | hy
          · exact hbo y hy
          · have hy : y = x := by simpa using hy
            subst hy
            rw [Bool.or_eq_false_iff] at h136
            have := of_decide_eq_false h136.1
            have := of_decide_eq_false h136.2
            omega
      · obtain ⟨x6, x7, rfl, hbo⟩ := hI
        rw [pr2_len, List.take_length] at hbo ⊢
        have hok : OkP1 pu := ⟨by have := of_decide_eq_false h132; rw [pr2_len] at this; omega, hnd, hbo⟩
        -- if _law_money > 1000000000000000:
        refine sv_ifX (etCmp (by first | exact (evV 5 rfl).h | exact (esO 5 rfl).h) (EV.h evI) cv_gt) (fun h139 => ?_) (fun h139 => ?_)
        · skip
          -- return 'money'
          refine sv_ret evStr ?_
          show Q _
          rw [due_2 hok (by have := of_decide_eq_true h139; omega)] at hQ
          exact hQ
        · skip
          -- return 'made' if 1 <= _law_room <= 200 else 'room'
          refine sv_ret (evIfD (etChain (EV.h evI) (by first | exact (evV 1 rfl).h | exact (esO 1 rfl).h) (EV.h evI) cv_le cv_le) (fun hb => evStr) (fun hb => evStr)) ?_
          show Q _
          have hs : smP pu ≤ 1000000000000000 := by have := of_decide_eq_false h139; omega
          by_cases h3 : 1 ≤ rm ∧ rm ≤ 200
          · rw [due_4 hok hs h3] at hQ
            refine rt_is hQ (congrArg Rs.da ?_)
            exact if_pos (by rw [decide_eq_true h3.1, decide_eq_true h3.2]; rfl)
          · rw [due_3 hok hs h3] at hQ
            refine rt_is hQ (congrArg Rs.da ?_)
            exact if_neg (by intro z; rw [Bool.and_eq_true] at z; exact h3 ⟨of_decide_eq_true z.1, of_decide_eq_true z.2⟩)
end
end Tp
namespace Tp
open PySem L2
section
variable {P : Program} {w : World} {K : PySem.W.Frag} {mg : Str → Option Value} {base : Heap}
/-! law -/
theorem sc_law : FnScope ["_law_script", "_law_rows_here", "_law_row", "_law_many", "_law_purses", "_law_k", "_law_room", ".gs"] ["_law_script"] (defScope s_law) := ⟨rfl, rfl, rfl, by decide +kernel, rfl, by decide +kernel, by decide +kernel⟩
theorem ok_law {xs : Xs} {f : Addr} {fd : FuncData} (F : Fun K "law" "law" s_law f fd) (T : Txt K mg xs) (C__law_rows : Cal P w [] K mg base "_law_rows" 1 (c__law_rows xs)) (N__law_made_0 : CalM P w [] K mg base "_law_made" 5 (c__law_made xs) 2 [] (fun a b => a ++ (b ++ []))) (C__law_due : Cal P w [] K mg base "_law_due" 1 (c__law_due xs)) : FnOk P w K mg base (L2.CX P w) 6 f fd ["_law_script"] (spD [] K (c_law xs)) := by
  refine fn_d F sc_law (fun ds Q E h => by obtain ⟨_, rfl, _⟩ := h; rfl) fun cdv A outer s H H0 E qs ds Q Ex g hc => ?_
  obtain ⟨ns, rfl, hpre, hQ⟩ := hc
  show SV _ _ _ _ [.im (PyData.list (ns.map PyData.int)), .no, .no, .no, .no, .no, .no, .no] _
  refine sv_ghost0 7 rfl ?_
  show SV _ _ _ _ [.im (PyData.list (ns.map PyData.int)), .no, .no, .no, .no, .no, .no, .gs []] _
  -- _law_rows_here = _law_rows(_law_script, 24)
  refine sv_asgC 1 g (Po := fun s => ∃ R : List Int, R.length = (24 : Int).toNat ∧ (∀ x ∈ R, 0 ≤ x) ∧ s = Rs.nl (itD R)) (Ex := fun _ => False) (ecCall g C__law_rows (by decide) (eaC (evV 0 rfl) (eaC evI eaN)) ⟨ns, 24, rfl, ⟨by decide, by decide, hpre⟩, fun R h1 h2 => ⟨R, h1, h2, rfl⟩⟩) (fun s p1_143 hs => ?_) (fun _ z => z.elim)
  obtain ⟨R, hRl, hR, rfl⟩ := hs
  have hRl : R.length = 24 := hRl
  show SV _ _ _ _ [_, _, _, _, _, _, _, _] _
  -- for _law_row in _law_rows_here:
  refine SV.weak (q := [_, .im _, _, _, _, _, _, _]) (by walk_at "Tp.wk") ?_
  refine sv_forL (fun i r' => ∃ (x2 x3 x4 x6 : Sl), r' = [.im (.list (ns.map PyData.int)), .im (.list (itD R)), x2, x3, x4, .no, x6, .gs []]) ((fun d r' => r'.set 2 (.im d))) g (evV 1 rfl) (fun _ i d r' hi => gt_name 2 g.nd) ?_ (fun B1 i d r' hi hI => ?_) (fun r' hI => ?_)
  · exact ⟨_, _, _, _, rfl⟩
  · obtain ⟨x2, x3, x4, x6, rfl⟩ := hI
    obtain ⟨x, hx, rfl⟩ := itx_at hi
    have hx0 : 0 ≤ x := hR x (List.mem_of_getElem? hx)
    -- _law_many = (0, 1, 2, 3, 49, 50, 51)[int(_law_row) % 7]
    obtain ⟨c, hat_c, hc⟩ : ∃ z : Int, atI ([.int (0), .int (1), .int (2), .int (3), .int (49), .int (50), .int (51)] : List D) (x % 7) = some (.int z) ∧ (0 ≤ z ∧ z ≤ 51) := by
      have h : x % 7 = 0 ∨ x % 7 = 1 ∨ x % 7 = 2 ∨ x % 7 = 3 ∨ x % 7 = 4 ∨ x % 7 = 5 ∨ x % 7 = 6 := by omega
      rcases h with h | h | h | h | h | h | h <;> rw [h]
      · exact ⟨_, rfl, by decide⟩
      · exact ⟨_, rfl, by decide⟩
      · exact ⟨_, rfl, by decide⟩
      · exact ⟨_, rfl, by decide⟩
      · exact ⟨_, rfl, by decide⟩
      · exact ⟨_, rfl, by decide⟩
      · exact ⟨_, rfl, by decide⟩
    refine sv_asg 3 g (evIx (EV.seqT (evTup (eaC evI (eaC evI (eaC evI (eaC evI (eaC evI (eaC evI (eaC evI eaN))))))))) (evBin (by first | exact evInt (evV 2 rfl) T.b_int | exact evIntB (evV 2 rfl) T.b_int) evI (ov_mod (by walk_at "Tp.pre"))) (by exact hat_c)) ?_
    show SV _ _ _ _ [_, _, _, _, _, _, _, _] _
    -- _law_purses = [(_law_k + 1, int(_law_row // (7 + _law_k)) % 9) for _law_k in range(_law_many)]
    refine sv_asgLcO 4 (evLcR 5 g (evV 3 rfl) (by walk_at "Tp.len") T.b_range lt_nil (fun s8 H8 C8 cl8 fp8 B8 q8 i8 hi8 hb8 => (evTup (eaC (evBin (evV 5 rfl) evI (by walk_at "Tp.add")) (eaC (evBin (by first | exact evInt (evBin (evV 2 rfl) (evBin evI (evV 5 rfl) (by walk_at "Tp.add")) (by walk_at "Tp.div")) T.b_int | exact evIntB (evBin (evV 2 rfl) (evBin evI (evV 5 rfl) (by walk_at "Tp.add")) (by walk_at "Tp.div")) T.b_int) evI (ov_mod (by walk_at "Tp.pre"))) eaN))))) (fun p4_146 => ?_)
    obtain ⟨pu, hpu, hpl⟩ := pu_lc x c.toNat
    rw [hpu]
    show SV _ _ _ _ [_, _, _, _, _, _, _, _] _
    refine sv_seqN 1 (fun r' => ∃ (pu : List (Int × Int)) (x5 : Sl), r' = [.im (.list (ns.map PyData.int)), .im (.list (itD R)), .im (.int x), .im (.int c), .ol p4_146 (pr2 pu), x5, x6, .gs []] ∧ pu.length = c.toNat) ?_ (fun r' hI => ?_)
    · skip
      -- if _law_many > 1 and int(_law_row // 7) % 4 == 0:
      refine sv_if (EW.t (ewAnd (etCmp (by first | exact (evV 3 rfl).h | exact (esO 3 rfl).h) (EV.h evI) cv_gt) fun hb => (ewAnd1 (etCmp (EV.h (evBin (by first | exact evInt (evBin (evV 2 rfl) evI (by walk_at "Tp.div")) T.b_int | exact evIntB (evBin (evV 2 rfl) evI (by walk_at "Tp.div")) T.b_int) evI (ov_mod (by walk_at "Tp.pre")))) (EV.h evI) (by walk_at "Tp.eq"))))) (fun h147 => ?_) (fun h147 => ?_)
      · skip
        -- _law_purses[_law_many - 1] = (1 + int(_law_row // 28) % _law_many, 3)
        have h5 := h147
        rw [Bool.and_eq_true] at h5
        have hc1 := of_decide_eq_true h5.1
        have hlen9 : (pr2 pu).length = c.toNat := by rw [pr2_len, hpl]
        refine sv_set 4 rfl (evTup (eaC (evBin evI (evBin (by first | exact evInt (evBin (evV 2 rfl) evI (by walk_at "Tp.div")) T.b_int | exact evIntB (evBin (evV 2 rfl) evI (by walk_at "Tp.div")) T.b_int) (evV 3 rfl) (ov_mod (by walk_at "Tp.pre"))) (by walk_at "Tp.add")) (eaC evI eaN))) (evBin (evV 3 rfl) evI ov_sub) (by walk_at "Tp.ixn") ?_
        refine sv_nil ?_
        show SV _ _ _ _ _ _
        refine sv_nil ?_
        first
        | exact ⟨_, _, by rw [pr2_set]; rfl, by rw [List.length_set]; exact hpl⟩
        | exact ⟨pu, _, rfl, hpl⟩
      · skip
        refine sv_nil ?_
        show SV _ _ _ _ _ _
        refine sv_nil ?_
        first
        | exact ⟨_, _, by rw [pr2_set]; rfl, by rw [List.length_set]; exact hpl⟩
        | exact ⟨pu, _, rfl, hpl⟩
    · obtain ⟨pu, x5, rfl, hpl⟩ := hI
      refine sv_seqN 1 (fun r' => ∃ (pu : List (Int × Int)) (x5 : Sl), r' = [.im (.list (ns.map PyData.int)), .im (.list (itD R)), .im (.int x), .im (.int c), .ol p4_146 (pr2 pu), x5, x6, .gs []] ∧ pu.length = c.toNat) ?_ (fun r' hI => ?_)
      · skip
        -- if _law_many > 0 and int(_law_row // 7) % 4 == 1:
        refine sv_if (EW.t (ewAnd (etCmp (by first | exact (evV 3 rfl).h | exact (esO 3 rfl).h) (EV.h evI) cv_gt) fun hb => (ewAnd1 (etCmp (EV.h (evBin (by first | exact evInt (evBin (evV 2 rfl) evI (by walk_at "Tp.div")) T.b_int | exact evIntB (evBin (evV 2 rfl) evI (by walk_at "Tp.div")) T.b_int) evI (ov_mod (by walk_at "Tp.pre")))) (EV.h evI) (by walk_at "Tp.eq"))))) (fun h149 => ?_) (fun h149 => ?_)
        · skip
          -- _law_purses[0] = (1, (1000000000000000, 1000000000000001, 0 - 1, 999999999999990)[int(_law_row // 28
          have h7 := h149
          rw [Bool.and_eq_true] at h7
          have hc1 := of_decide_eq_true h7.1
          have hlen9 : (pr2 pu).length = c.toNat := by rw [pr2_len, hpl]
          obtain ⟨am, hat_am, ham⟩ : ∃ z : Int, atI ([.int (1000000000000000), .int (1000000000000001), .int (0 - 1), .int (999999999999990)] : List D) (x / 28 % 4) = some (.int z) ∧ True := by
            have h : x / 28 % 4 = 0 ∨ x / 28 % 4 = 1 ∨ x / 28 % 4 = 2 ∨ x / 28 % 4 = 3 := by omega
            rcases h with h | h | h | h <;> rw [h]
            · exact ⟨_, rfl, by decide⟩
            · exact ⟨_, rfl, by decide⟩
            · exact ⟨_, rfl, by decide⟩
            · exact ⟨_, rfl, by decide⟩
          refine sv_set 4 rfl (evTup (eaC evI (eaC (evIx (EV.seqT (evTup (eaC evI (eaC evI (eaC (evBin evI evI ov_sub) (eaC evI eaN)))))) (evBin (by first | exact evInt (evBin (evV 2 rfl) evI (by walk_at "Tp.div")) T.b_int | exact evIntB (evBin (evV 2 rfl) evI (by walk_at "Tp.div")) T.b_int) evI (ov_mod (by walk_at "Tp.pre"))) (by exact hat_am)) eaN))) evI (by walk_at "Tp.ixn") ?_
          refine sv_nil ?_
          show SV _ _ _ _ _ _
          refine sv_nil ?_
          first
          | exact ⟨_, _, by rw [pr2_set]; rfl, by rw [List.length_set]; exact hpl⟩
          | exact ⟨pu, _, rfl, hpl⟩
        · skip
          refine sv_nil ?_
          show SV _ _ _ _ _ _
          refine sv_nil ?_
          first
          | exact ⟨_, _, by rw [pr2_set]; rfl, by rw [List.length_set]; exact hpl⟩
          | exact ⟨pu, _, rfl, hpl⟩
      · obtain ⟨pu, x5, rfl, hpl⟩ := hI
        -- _law_room = (1, 200, 201, 0, 0 - 1, 7)[int(_law_row // 112) % 6]
        obtain ⟨rm, hat_rm, hrm⟩ : ∃ z : Int, atI ([.int (1), .int (200), .int (201), .int (0), .int (0 - 1), .int (7)] : List D) (x / 112 % 6) = some (.int z) ∧ True := by
          have h : x / 112 % 6 = 0 ∨ x / 112 % 6 = 1 ∨ x / 112 % 6 = 2 ∨ x / 112 % 6 = 3 ∨ x / 112 % 6 = 4 ∨ x / 112 % 6 = 5 := by omega
          rcases h with h | h | h | h | h | h <;> rw [h]
          · exact ⟨_, rfl, by decide⟩
          · exact ⟨_, rfl, by decide⟩
          · exact ⟨_, rfl, by decide⟩
          · exact ⟨_, rfl, by decide⟩
          · exact ⟨_, rfl, by decide⟩
          · exact ⟨_, rfl, by decide⟩
        refine sv_asg 6 g (evIx (EV.seqT (evTup (eaC evI (eaC evI (eaC evI (eaC evI (eaC (evBin evI evI ov_sub) (eaC evI eaN)))))))) (evBin (by first | exact evInt (evBin (evV 2 rfl) evI (by walk_at "Tp.div")) T.b_int | exact evIntB (evBin (evV 2 rfl) evI (by walk_at "Tp.div")) T.b_int) evI (ov_mod (by walk_at "Tp.pre"))) (by exact hat_rm)) ?_
        show SV _ _ _ _ [_, _, _, _, _, _, _, _] _
        -- if _law_made(_law_purses, _law_room) != _law_due(_law_purses, _law_room):
        refine SV.weak (q := [_, _, _, _, .im _, _, _, _]) (by walk_at "Tp.wk") ?_
        refine sv_ifF (etCmp (EV.h (EC.ev (ecCallM g N__law_made_0 (by decide) (eaiD (evV 4 rfl) (eaiD (evV 6 rfl) eaiN)) ekiN alG_n ⟨pu, rm, rfl, rfl, rfl, by omega, fun _ => rfl⟩))) (EV.h (EC.ev (ecCall g C__law_due (by decide) (eaC (evV 4 rfl) (eaC (evV 6 rfl) eaN)) ⟨pu, rm, rfl, by omega, rfl⟩))) (by walk_at "Tp.ne")) ?_ (by rw [decide_eq_true rfl]; rfl)
        refine sv_nil ?_
        show SV _ _ _ _ _ _
        refine sv_nil ?_
        exact ⟨_, by walk_at "Tp.wk", _, _, _, _, rfl⟩
  · obtain ⟨x2, x3, x4, x6, rfl⟩ := hI
    -- return True
    refine sv_ret evB ?_
    show Q _
    walk_at "Tp.ret"
end
end Tp
namespace Tp
open PySem L2
abbrev d__law_rows : He.DefD := ⟨("_law_rows", none), "_law_rows", "_law_rows", defArgs s__law_rows, defBody s__law_rows, defScope s__law_rows, [], []⟩
abbrev d_check_purses : He.DefD := ⟨("check_purses", none), "check_purses", "check_purses", defArgs s_check_purses, defBody s_check_purses, defScope s_check_purses, [], []⟩
abbrev d_Book_init : He.DefD := ⟨("Book", some "__init__"), "__init__", "Book.__init__", defArgs s_Book_init, defBody s_Book_init, defScope s_Book_init, [], []⟩
abbrev d_Ledger_init : He.DefD := ⟨("Ledger", some "__init__"), "__init__", "Ledger.__init__", defArgs s_Ledger_init, defBody s_Ledger_init, defScope s_Ledger_init, [], []⟩
abbrev d__law_made : He.DefD := ⟨("_law_made", none), "_law_made", "_law_made", defArgs s__law_made, defBody s__law_made, defScope s__law_made, [], []⟩
abbrev d__law_due : He.DefD := ⟨("_law_due", none), "_law_due", "_law_due", defArgs s__law_due, defBody s__law_due, defScope s__law_due, [], []⟩
abbrev d_law : He.DefD := ⟨("law", none), "law", "law", defArgs s_law, defBody s_law, defScope s_law, [], []⟩
def dfs : List He.DefD := [d__law_rows, d_check_purses, d_Book_init, d_Ledger_init, d__law_made, d__law_due, d_law]
def fas : List He.Fa := [.glo "law", .cls "Book", .noat "Book" "purses", .noat "Book" "vaults", .noat "Book" "receipts", .noat "Book" "ended", .noat "Book" "done", .noat "Book" "height", .noat "Book" "burnt", .cls "Ledger", .noat "Ledger" "book", .noat "Ledger" "room", .noat "Ledger" "waiting", .glo "TurnpikeError", .exc "TurnpikeError", .glo "OutOfBounds", .exc "OutOfBounds", .glo "InvalidPurses", .exc "InvalidPurses", .glo "TooMuchMoney", .exc "TooMuchMoney", .free "all", .free "int", .free "len", .free "range", .free "set", .free "sum", .int "MOST_MONEY" 1000000000000000, .int "MOST_PURSES" 50, .int "MOST_ROOM" 200, .glo "_law_rows", .glo "check_purses", .mkr "Book", .glo "Book", .mkr "Ledger", .glo "Ledger", .glo "_law_made", .glo "_law_due"]
def tfs : List He.Defn := []
def exB (K : PySem.W.Frag) : Bool := (excB K (He.ga K "TurnpikeError")) && ((excB K (He.ga K "OutOfBounds")) && ((excB K (He.ga K "InvalidPurses")) && ((excB K (He.ga K "TooMuchMoney")) && ((subB K (He.ga K "InvalidPurses") (He.ga K "InvalidPurses") true) && ((subB K (He.ga K "OutOfBounds") (He.ga K "InvalidPurses") false) && ((subB K (He.ga K "OutOfBounds") (He.ga K "OutOfBounds") true) && ((subB K (He.ga K "OutOfBounds") (He.ga K "TooMuchMoney") false) && ((subB K (He.ga K "TooMuchMoney") (He.ga K "InvalidPurses") false) && ((subB K (He.ga K "TooMuchMoney") (He.ga K "TooMuchMoney") true) && (true))))))))))
abbrev hk : PySem.W.Hook := He.hookX 6 fas dfs [] tfs exB
def ob (s : PySem.W.SharedT) : He.AlX := obsXF 6 fas dfs [] tfs exB (HandSHeadRun.getT s)
theorem ob_eq (s : PySem.W.SharedT) : ob s = hk.obs s.abs := obsXF_eq (HandSHeadRun.getT_eq s)
def loose : List PySem.Str := (["_wall", "TurnpikeError", "OutOfBounds", "InvalidPurses", "TooMuchMoney", "MOST_MONEY", "Book", "MOST_PURSES", "MOST_ROOM", "check_purses", "Ledger", "_law_rows", "_law_made", "_law_due"] : List PySem.Str)
theorem run (w : World) : HandSHeadRun.RunEq (PySem.W.OpenLaw.row PySem.Challenge.rw_turnpike_k39_new_ledgers_are_refused) (PySem.W.view (PySem.W.OpenLaw.row PySem.Challenge.rw_turnpike_k39_new_ledgers_are_refused).prog [18]) hk ob 8000 loose w := by
  intro os
  kernel_rfl
theorem all4 {w : World} {K : PySem.W.Frag} {h : Heap} {mg : Str → Option Value} {fa : Addr} (X : K.In h) (G : h.Ns mainGlobals mg) (hfa : mg "law" = some (.ref fa)) (c : He.SaysX fas dfs [] tfs exB w h K) : LamX.LawAtS PySem.Challenge.rw_turnpike_k39_new_ledgers_are_refused w K (L2.CX PySem.Challenge.rw_turnpike_k39_new_ledgers_are_refused.prog w) 6 63 "_law_script" mg fa h := by
  have e := hfa.symm.trans (He.glo_ok X G (c.t.d.fact 0 (f := .glo "law") rfl))
  cases e
  have m0 : exB K = true := c.more
  obtain ⟨e0, m1⟩ := He.ba m0
  obtain ⟨e1, m2⟩ := He.ba m1
  obtain ⟨e2, m3⟩ := He.ba m2
  obtain ⟨e3, m4⟩ := He.ba m3
  obtain ⟨e4, m5⟩ := He.ba m4
  obtain ⟨e5, m6⟩ := He.ba m5
  obtain ⟨e6, m7⟩ := He.ba m6
  obtain ⟨e7, m8⟩ := He.ba m7
  obtain ⟨e8, m9⟩ := He.ba m8
  obtain ⟨e9, m10⟩ := He.ba m9
  obtain ⟨fd0, D0⟩ := c.t.d.def_ 0 (d := d__law_rows) rfl
  have D0 : FunD K "_law_rows" "_law_rows" (defArgs s__law_rows) (defBody s__law_rows) (defScope s__law_rows) [] [] (He.ga K "_law_rows") fd0 := D0
  have F0 : Fun K "_law_rows" "_law_rows" s__law_rows (He.ga K "_law_rows") fd0 := fun_D D0
  obtain ⟨fd1, D1⟩ := c.t.d.def_ 1 (d := d_check_purses) rfl
  have D1 : FunD K "check_purses" "check_purses" (defArgs s_check_purses) (defBody s_check_purses) (defScope s_check_purses) [] [] (He.ga K "check_purses") fd1 := D1
  have F1 : Fun K "check_purses" "check_purses" s_check_purses (He.ga K "check_purses") fd1 := fun_D D1
  obtain ⟨fd2, D2⟩ := c.t.d.def_ 2 (d := d_Book_init) rfl
  have D2 : FunD K "__init__" "Book.__init__" (defArgs s_Book_init) (defBody s_Book_init) (defScope s_Book_init) [] [] (He.ma K (He.ga K "Book") "__init__") fd2 := D2
  have F2 : Fun K "__init__" "Book.__init__" s_Book_init (He.ma K (He.ga K "Book") "__init__") fd2 := fun_D D2
  obtain ⟨fd3, D3⟩ := c.t.d.def_ 3 (d := d_Ledger_init) rfl
  have D3 : FunD K "__init__" "Ledger.__init__" (defArgs s_Ledger_init) (defBody s_Ledger_init) (defScope s_Ledger_init) [] [] (He.ma K (He.ga K "Ledger") "__init__") fd3 := D3
  have F3 : Fun K "__init__" "Ledger.__init__" s_Ledger_init (He.ma K (He.ga K "Ledger") "__init__") fd3 := fun_D D3
  obtain ⟨fd4, D4⟩ := c.t.d.def_ 4 (d := d__law_made) rfl
  have D4 : FunD K "_law_made" "_law_made" (defArgs s__law_made) (defBody s__law_made) (defScope s__law_made) [] [] (He.ga K "_law_made") fd4 := D4
  have F4 : Fun K "_law_made" "_law_made" s__law_made (He.ga K "_law_made") fd4 := fun_D D4
  obtain ⟨fd5, D5⟩ := c.t.d.def_ 5 (d := d__law_due) rfl
  have D5 : FunD K "_law_due" "_law_due" (defArgs s__law_due) (defBody s__law_due) (defScope s__law_due) [] [] (He.ga K "_law_due") fd5 := D5
  have F5 : Fun K "_law_due" "_law_due" s__law_due (He.ga K "_law_due") fd5 := fun_D D5
  obtain ⟨fd6, D6⟩ := c.t.d.def_ 6 (d := d_law) rfl
  have D6 : FunD K "law" "law" (defArgs s_law) (defBody s_law) (defScope s_law) [] [] (He.ga K "law") fd6 := D6
  have F6 : Fun K "law" "law" s_law (He.ga K "law") fd6 := fun_D D6
  let xs : Xs := ⟨He.ga K "TurnpikeError", He.ga K "OutOfBounds", He.ga K "InvalidPurses", He.ga K "TooMuchMoney", He.ga K "Book", He.ga K "Ledger"⟩
  have T : Txt K mg xs := ⟨He.cls_ok (c.t.d.fact 1 (f := .cls "Book") rfl), He.noat_ok (c.t.d.fact 2 (f := .noat "Book" "purses") rfl), He.noat_ok (c.t.d.fact 3 (f := .noat "Book" "vaults") rfl), He.noat_ok (c.t.d.fact 4 (f := .noat "Book" "receipts") rfl), He.noat_ok (c.t.d.fact 5 (f := .noat "Book" "ended") rfl), He.noat_ok (c.t.d.fact 6 (f := .noat "Book" "done") rfl), He.noat_ok (c.t.d.fact 7 (f := .noat "Book" "height") rfl), He.noat_ok (c.t.d.fact 8 (f := .noat "Book" "burnt") rfl), He.cls_ok (c.t.d.fact 9 (f := .cls "Ledger") rfl), He.noat_ok (c.t.d.fact 10 (f := .noat "Ledger" "book") rfl), He.noat_ok (c.t.d.fact 11 (f := .noat "Ledger" "room") rfl), He.noat_ok (c.t.d.fact 12 (f := .noat "Ledger" "waiting") rfl), xct_ok X G (c.t.d.fact 13 (f := .glo "TurnpikeError") rfl) (c.t.d.fact 14 (f := .exc "TurnpikeError") rfl) e0, xct_ok X G (c.t.d.fact 15 (f := .glo "OutOfBounds") rfl) (c.t.d.fact 16 (f := .exc "OutOfBounds") rfl) e1, xct_ok X G (c.t.d.fact 17 (f := .glo "InvalidPurses") rfl) (c.t.d.fact 18 (f := .exc "InvalidPurses") rfl) e2, xct_ok X G (c.t.d.fact 19 (f := .glo "TooMuchMoney") rfl) (c.t.d.fact 20 (f := .exc "TooMuchMoney") rfl) e3, of_decide_eq_true e4, of_decide_eq_true e5, of_decide_eq_true e6, of_decide_eq_true e7, of_decide_eq_true e8, of_decide_eq_true e9, He.free_ok X G (c.t.d.fact 21 (f := .free "all") rfl), He.free_ok X G (c.t.d.fact 22 (f := .free "int") rfl), He.free_ok X G (c.t.d.fact 23 (f := .free "len") rfl), He.free_ok X G (c.t.d.fact 24 (f := .free "range") rfl), He.free_ok X G (c.t.d.fact 25 (f := .free "set") rfl), He.free_ok X G (c.t.d.fact 26 (f := .free "sum") rfl), He.int_ok X G (c.t.d.fact 27 (f := .int "MOST_MONEY" 1000000000000000) rfl), He.int_ok X G (c.t.d.fact 28 (f := .int "MOST_PURSES" 50) rfl), He.int_ok X G (c.t.d.fact 29 (f := .int "MOST_ROOM" 200) rfl)⟩
  refine law_at (cs := tfs.map (He.cT K)) X (fun p hp => by obtain ⟨z, hz, e⟩ := List.mem_map.mp hp; subst e; exact c.empty z hz) (fun p hp => by obtain ⟨z, hz, e⟩ := List.mem_map.mp hp; subst e; exact c.out z hz) (fun p hp => by obtain ⟨z, hz, e⟩ := List.mem_map.mp hp; subst e; exact c.hd z hz) (fun s v => FunD.bindsA (ps := ["_law_script"]) D6 (fun _ _ _ _ _ _ us hl => match us, hl with | [_], _ => rfl) s [v] rfl) (c := c_law xs) (fun ns hl => ⟨ns, rfl, hl, rfl⟩) fun base B1 B2 TB => ?_
  have C__law_rows : Cal PySem.Challenge.rw_turnpike_k39_new_ledgers_are_refused.prog w [] K mg base "_law_rows" 1 (c__law_rows xs) := ⟨_, _, _, ok__law_rows F0 T, He.glo_ok X G (c.t.d.fact 30 (f := .glo "_law_rows") rfl), D0.kp, F0.binds (ps := ["_law_script", "_law_count"]) fun _ _ _ _ _ _ us hl => match us, hl with | [_, _], _ => rfl⟩
  have C_check_purses : Cal PySem.Challenge.rw_turnpike_k39_new_ledgers_are_refused.prog w [] K mg base "check_purses" 1 (c_check_purses xs) := ⟨_, _, _, ok_check_purses F1 T, He.glo_ok X G (c.t.d.fact 31 (f := .glo "check_purses") rfl), D1.kp, F1.binds (ps := ["purses"]) fun _ _ _ _ _ _ us hl => match us, hl with | [_], _ => rfl⟩
  have M_Book_init_0 : MakM PySem.Challenge.rw_turnpike_k39_new_ledgers_are_refused.prog w [] K mg base "Book" (He.ga K "Book") 1 (c_Book_init xs) 1 [] (fun a b => a ++ (b ++ [])) := makM_of (ok_Book_init (xs := xs) F2 T) (He.mkr_ok (c.t.d.fact 32 (f := .mkr "Book") rfl)) (He.glo_ok X G (c.t.d.fact 33 (f := .glo "Book") rfl)) (binds_kbn (F2.binds (ps := ["self", "purses"]) fun _ _ _ _ _ _ us hl => match us, hl with | [_, _], _ => rfl) rfl) .nil
  obtain ⟨_, _, _, kV3_0, _, _, _, _, _, _, q3_0, _, _, hD3_0, _⟩ := D3.ex
  have hD3_0 := dfl_none hD3_0
  have M_Ledger_init_0 : MakM PySem.Challenge.rw_turnpike_k39_new_ledgers_are_refused.prog w [] K mg base "Ledger" (He.ga K "Ledger") 3 (c_Ledger_init xs) 1 ["room"] (fun a b => a ++ (b ++ [])) := makM_of (ok_Ledger_init (xs := xs) F3 T C_check_purses M_Book_init_0) (He.mkr_ok (c.t.d.fact 34 (f := .mkr "Ledger") rfl)) (He.glo_ok X G (c.t.d.fact 35 (f := .glo "Ledger") rfl)) (by subst q3_0 hD3_0; exact kbn_plain (fun s us ws h1 h2 => match us, ws, h1, h2 with | [_, _], [_], _, _ => .of_eq rfl)) .nil
  have N__law_made_0 : CalM PySem.Challenge.rw_turnpike_k39_new_ledgers_are_refused.prog w [] K mg base "_law_made" 5 (c__law_made xs) 2 [] (fun a b => a ++ (b ++ [])) := calM_of (ok__law_made F4 T M_Ledger_init_0) (He.glo_ok X G (c.t.d.fact 36 (f := .glo "_law_made") rfl)) D4.kp (binds_kbn (F4.binds (ps := ["_law_purses", "_law_room"]) fun _ _ _ _ _ _ us hl => match us, hl with | [_, _], _ => rfl) rfl) .nil
  have C__law_due : Cal PySem.Challenge.rw_turnpike_k39_new_ledgers_are_refused.prog w [] K mg base "_law_due" 1 (c__law_due xs) := ⟨_, _, _, ok__law_due F5 T, He.glo_ok X G (c.t.d.fact 37 (f := .glo "_law_due") rfl), D5.kp, F5.binds (ps := ["_law_purses", "_law_room"]) fun _ _ _ _ _ _ us hl => match us, hl with | [_, _], _ => rfl⟩
  have Z := ok_law (xs := xs) (P := PySem.Challenge.rw_turnpike_k39_new_ledgers_are_refused.prog) (w := w) (base := base) F6 T C__law_rows N__law_made_0 C__law_due
  exact Z
end Tp
open PySem PySem.W PySem.Calls PyProof.Rows
set_option maxRecDepth 100000 in
set_option maxHeartbeats 0 in
theorem PySem.Challenge.cw_turnpike_k39_new_ledgers_are_refused_holds : PySem.Challenge.rw_turnpike_k39_new_ledgers_are_refused.Holds := by
  w_on; o_law
  refine HandSHeadRun.head_any (r := OpenLaw.row PySem.Challenge.rw_turnpike_k39_new_ledgers_are_refused) (q := view (OpenLaw.row PySem.Challenge.rw_turnpike_k39_new_ledgers_are_refused).prog [18]) (H := Tp.hk) (ob := Tp.ob) (M := 8000) (loose := Tp.loose) (d := HandSHeadRun.topDef (OpenLaw.row PySem.Challenge.rw_turnpike_k39_new_ledgers_are_refused).prog 18) (kwd := []) Tp.ob_eq
    (by kernel_rfl) (fun s => by kernel_rfl) Tp.run (by kernel_rfl) (by kernel_rfl) (by kernel_rfl) (by rfl) (by first | assumption | decide +kernel) (by decide +kernel) ⟨rfl, rfl, rfl, rfl, rfl, by decide +kernel⟩ ?hw ?hc
  case hw => w_witness2
  case hc =>
    refine LamX.walk_ofTsE (l := PySem.Challenge.rw_turnpike_k39_new_ledgers_are_refused) (n := 63) (k := 6) (x := "_law_script") (CX := fun w => L2.CX PySem.Challenge.rw_turnpike_k39_new_ledgers_are_refused.prog w) rfl (by decide) (by kernel_rfl) ⟨rfl, by decide, by decide⟩ ?F (fun w H s e s' z => by obtain ⟨_, _, _, _, _, _, _, _, _, _, _, _, z⟩ := z; exact z)
    intro w mg fa h Y G hmg0
    obtain ⟨K, KX, c⟩ := Y
    have hmg : mg ("law" : PySem.Str) = some (.ref fa) := by
      have e : (HandSHeadRun.topDef (OpenLaw.row PySem.Challenge.rw_turnpike_k39_new_ledgers_are_refused).prog 18).name = ("law" : PySem.Str) := by kernel_rfl
      rw [← e]
      exact hmg0
    exact ⟨K, KX, Tp.all4 KX G hmg c⟩
