import PyProof.Rows.All
import Wide.All
import OpenK.AllK
import Wide.FinOn
import HandS.ForMost
import HandS.ForExc
import HandS.Wide
import HandS.Style
import HandS.Flow
import HandS.IsInst
import HandS.TryMany
import HandS.CallSlots
import HandS.ExcIs
import HandS.ListItems
import HandS.Comp
import HandS.Rev
import HandS.TupAny
import HandS.Defaults
import HandS.AnyAll
import PyProof.SumAny
import HandS.SetBool
import HandS.TupSets
import HandS.Deep
import HandS.SetKeys
import HandS.More
import HandS.Iter
import HandS.Zip
import KE.GoesEnum
import PyProof.DictMoreH
import KE.KStateDown
import HandS.Head0
import HandS.Head1
import HandS.Head2
import HandS.HeadEnd
import HandS.HeadHook1
import HandS.HeadHook2
import HandS.HeadHook3
import HandS.HeadHook4
import HandS.HeadWalk
import HandS.EndTab
import HandS.MakeKwOnly
import HandS.Property
import HandS.OwnEq
import PySem.Challenge.RW_turnpike_k25_refused_requests
set_option Elab.async false
set_option linter.all false
set_option maxRecDepth 100000
set_option maxHeartbeats 40000000
/-! The layer of data: expressions and statements over plain data, the heap out of sight. -/
namespace Tp
open PySem L2

abbrev D := PyData

/-! ### values that stand for data -/
def kD : Key → D
  | .inl i => .int i
  | .inr x => .str x
abbrev kdm (x : Key × D) : D × D := (kD x.1, x.2)
theorem kD_inj : ∀ {a b : Key}, kD a = kD b → a = b
  | .inl _, .inl _, h => congrArg Sum.inl (PyData.int.inj h)
  | .inr _, .inr _, h => congrArg Sum.inr (PyData.str.inj h)
  | .inl _, .inr _, h => nomatch h
  | .inr _, .inl _, h => nomatch h
theorem kdm_inj : ∀ {a b : List (Key × D)}, a.map kdm = b.map kdm → a = b
  | [], [], _ => rfl
  | [], _ :: _, h => nomatch h
  | _ :: _, [], h => nomatch h
  | (k, d) :: a, (k', d') :: b, h => by
    have h' : (kD k, d) :: a.map kdm = (kD k', d') :: b.map kdm := h
    injection h' with h1 h2
    injection h1 with h3 h4
    rw [kD_inj h3, h4, kdm_inj h2]
/-- a table: keys are tuples of ints, values ints; told apart from other dicts by a first entry -/
def tabD (t : List (List Int × Int)) : D := .dict ((.none, .none) :: t.map fun x => (.tuple (x.1.map .int), .int x.2))
def tabV (t : List (List Int × Int)) : List (List Key × V) := t.map fun x => (x.1.map Sum.inl, .int x.2)
mutual
inductive Rp (K : PySem.W.Frag) (H : Hp) : V → D → Prop
  | non : Rp K H .non .none
  | bl (b : Bool) : Rp K H (.bl b) (.bool b)
  | int (i : Int) : Rp K H (.int i) (.int i)
  | str (x : Str) : Rp K H (.str x) (.str x)
  | lst {a : Addr} {xs : List V} {ds : List D} : SqL K H a xs → RpA K H xs ds → Rp K H (.ref a) (.list ds)
  | tup {a : Addr} {xs : List V} {ds : List D} : SqT K H a xs → RpA K H xs ds → Rp K H (.ref a) (.tuple ds)
  | dct {a : Addr} {us : List (Key × V)} {kvs : List (Key × D)} : H a = some (.dK us) → RpK K H us kvs → Rp K H (.ref a) (.dict (kvs.map kdm))
  | tab {a : Addr} {t : List (List Int × Int)} : H a = some (.dT (tabV t)) → Rp K H (.ref a) (.dict ((.none, .none) :: t.map fun x => (.tuple (x.1.map .int), .int x.2)))
inductive RpA (K : PySem.W.Frag) (H : Hp) : List V → List D → Prop
  | nil : RpA K H [] []
  | cons {v : V} {vs : List V} {d : D} {ds : List D} : Rp K H v d → RpA K H vs ds → RpA K H (v :: vs) (d :: ds)
inductive RpK (K : PySem.W.Frag) (H : Hp) : List (Key × V) → List (Key × D) → Prop
  | nil : RpK K H [] []
  | cons {k : Key} {v : V} {vs : List (Key × V)} {d : D} {ds : List (Key × D)} : Rp K H v d → RpK K H vs ds → RpK K H ((k, v) :: vs) ((k, d) :: ds)
end

/-- an object behind it: the same, or a code object's table that has grown -/
def Ext1 (o : HO) (r : Option HO) : Prop := r = some o ∨ ∃ ps ps', o = .tbl ps ∧ r = some (.tbl ps') ∧ (TriplesOk ps.toList → TriplesOk ps'.toList)
/-- no table -/
def NT : HO → Prop
  | .tbl _ => False
  | _ => True
theorem Ext1.nt {o : HO} {r : Option HO} (h : Ext1 o r) (n : NT o) : r = some o := h.elim id fun ⟨_, _, e, _⟩ => by subst e; exact n.elim
theorem Ext1.is {o : HO} {r : Option HO} (h : Ext1 o r) : ∃ u, r = some u := h.elim (fun e => ⟨_, e⟩) fun ⟨_, _, _, e, _⟩ => ⟨_, e⟩
theorem Ext1.no {o : HO} (h : Ext1 o none) : False := by
  obtain ⟨u, e⟩ := h.is
  cases e
theorem Ext1.trans {o : HO} {r q : Option HO} (h : Ext1 o r) (k : ∀ u, r = some u → Ext1 u q) : Ext1 o q := by
  rcases h with h | ⟨ps, ps', e, h, t⟩
  · exact k o h
  · rcases k _ h with h2 | ⟨qs, qs', e2, h2, t2⟩
    · exact .inr ⟨ps, ps', e, h2, t⟩
    · cases e2
      exact .inr ⟨ps, qs', e, h2, fun z => t2 (t z)⟩
/-- what stood stands -/
def Same (H H' : Hp) : Prop := ∀ a o, H a = some o → Ext1 o (H' a)
theorem Same.of {H H' : Hp} (h : ∀ a o, H a = some o → H' a = some o) : Same H H' := fun a o e => .inl (h a o e)
theorem Same.refl (H : Hp) : Same H H := fun _ _ e => .inl e
theorem Same.trans {H H' H'' : Hp} (a : Same H H') (b : Same H' H'') : Same H H'' := fun x o e => (a x o e).trans fun u eu => b x u eu
theorem Same.k {H H' : Hp} {a : Addr} {o : HO} (s : Same H H') (e : H a = some o) (n : NT o := by trivial) : H' a = some o := (s a o e).nt n
theorem Same.rd {H H' : Hp} {a : Addr} {o : HO} (s : Same H H') (h : Rd H a o) (n : NT o := by trivial) : Rd H' a o := by
  rcases h with h | ⟨u, h⟩
  · exact .inl (s.k h n)
  · exact .inr ⟨u, s.k h⟩
theorem Same.seq {K : PySem.W.Frag} {H H' : Hp} {a : Addr} {xs : List V} (e : Same H H') (h : SqL K H a xs) : SqL K H' a xs := h.elim (fun z => .inl (e.rd z)) .inr
theorem seqT {K : PySem.W.Frag} {H H' : Hp} {a : Addr} {xs : List V} (e : Same H H') (h : SqT K H a xs) : SqT K H' a xs := by
  exact h.elim (fun z => .inl (e.rd z)) .inr

section
variable {K : PySem.W.Frag} {H H' : Hp}
mutual
theorem Rp.mono (s : Same H H') : ∀ {v : V} {d : D}, Rp K H v d → Rp K H' v d
  | _, _, .non => .non
  | _, _, .bl b => .bl b
  | _, _, .int i => .int i
  | _, _, .str x => .str x
  | _, _, .lst h a => .lst (s.seq h) (RpA.mono s a)
  | _, _, .tup h a => .tup (seqT s h) (RpA.mono s a)
  | _, _, .dct h a => .dct (s.k h) (RpK.mono s a)
  | _, _, .tab h => .tab (s.k h)
theorem RpA.mono (s : Same H H') : ∀ {vs : List V} {ds : List D}, RpA K H vs ds → RpA K H' vs ds
  | _, _, .nil => .nil
  | _, _, .cons h a => .cons (Rp.mono s h) (RpA.mono s a)
theorem RpK.mono (s : Same H H') : ∀ {vs : List (Key × V)} {ds : List (Key × D)}, RpK K H vs ds → RpK K H' vs ds
  | _, _, .nil => .nil
  | _, _, .cons h a => .cons (Rp.mono s h) (RpK.mono s a)
end
theorem RpA.len : ∀ {vs : List V} {ds : List D}, RpA K H vs ds → vs.length = ds.length
  | _, _, .nil => rfl
  | _, _, .cons _ a => congrArg (· + 1) (RpA.len a)
theorem RpA.get : ∀ {vs : List V} {ds : List D} {i : Nat} {d : D}, RpA K H vs ds → ds[i]? = some d → ∃ v, vs[i]? = some v ∧ Rp K H v d
  | _, _, _, _, .nil, e => by simp at e
  | _, _, 0, _, .cons r _, e => by simp at e; subst e; exact ⟨_, rfl, r⟩
  | _, _, i + 1, _, .cons _ t, e => by
    obtain ⟨v, h1, h2⟩ := RpA.get (i := i) t (by simpa using e)
    exact ⟨v, by simpa using h1, h2⟩
theorem RpA.getV : ∀ {vs : List V} {ds : List D} {i : Nat} {v : V}, RpA K H vs ds → vs[i]? = some v → ∃ d, ds[i]? = some d ∧ Rp K H v d
  | _, _, _, _, .nil, e => by simp at e
  | _, _, 0, _, .cons r _, e => by simp at e; subst e; exact ⟨_, rfl, r⟩
  | _, _, i + 1, _, .cons _ t, e => by
    obtain ⟨v, h1, h2⟩ := RpA.getV (i := i) t (by simpa using e)
    exact ⟨v, by simpa using h1, h2⟩
theorem RpA.app : ∀ {vs : List V} {ds : List D} {ws : List V} {es : List D}, RpA K H vs ds → RpA K H ws es → RpA K H (vs ++ ws) (ds ++ es)
  | _, _, _, _, .nil, b => b
  | _, _, _, _, .cons r a, b => .cons r (RpA.app a b)
theorem RpK.keys : ∀ {us : List (Key × V)} {kvs : List (Key × D)}, RpK K H us kvs → us.map (·.1) = kvs.map (·.1)
  | _, _, .nil => rfl
  | _, _, .cons _ a => congrArg (_ :: ·) (RpK.keys a)
theorem RpK.len {us : List (Key × V)} {kvs : List (Key × D)} (h : RpK K H us kvs) : us.length = kvs.length := by
  have := congrArg List.length h.keys
  simpa using this
theorem RpA.one {v : V} {d : D} (h : Rp K H v d) : RpA K H [v] [d] := .cons h .nil
theorem RpA.rev : ∀ {vs : List V} {ds : List D}, RpA K H vs ds → RpA K H vs.reverse ds.reverse
  | _, _, .nil => .nil
  | _, _, .cons r a => by
    rw [List.reverse_cons, List.reverse_cons]
    exact RpA.app (RpA.rev a) (RpA.one r)
theorem RpA.drop : ∀ {vs : List V} {ds : List D} (n : Nat), RpA K H vs ds → RpA K H (vs.drop n) (ds.drop n)
  | _, _, 0, r => r
  | _, _, _ + 1, .nil => .nil
  | _, _, n + 1, .cons _ t => RpA.drop n t
theorem RpA.take : ∀ {vs : List V} {ds : List D} (n : Nat), RpA K H vs ds → RpA K H (vs.take n) (ds.take n)
  | _, _, 0, _ => .nil
  | _, _, _ + 1, .nil => .nil
  | _, _, n + 1, .cons r t => .cons r (RpA.take n t)
theorem RpA.set : ∀ {vs : List V} {ds : List D} {v : V} {d : D} (n : Nat), RpA K H vs ds → Rp K H v d → RpA K H (vs.set n v) (ds.set n d)
  | _, _, _, _, _, .nil, _ => .nil
  | _, _, _, _, 0, .cons _ t, r => .cons r t
  | _, _, _, _, n + 1, .cons q t, r => .cons q (RpA.set n t r)
theorem RpA.erase : ∀ {vs : List V} {ds : List D} (n : Nat), RpA K H vs ds → RpA K H (vs.eraseIdx n) (ds.eraseIdx n)
  | _, _, _, .nil => .nil
  | _, _, 0, .cons _ t => t
  | _, _, n + 1, .cons q t => .cons q (RpA.erase n t)
theorem RpA.ints : ∀ {ns : List Int}, RpA K H (ns.map V.int) (ns.map PyData.int)
  | [] => .nil
  | n :: _ => .cons (.int n) RpA.ints
/-- what a dict holds at a key; with the key stored -/
def lkK : List (Key × D) → Key → Option D
  | [], _ => none
  | (k, d) :: r, q => if k = q then some d else lkK r q
def ptK : List (Key × D) → Key → D → List (Key × D)
  | [], q, e => [(q, e)]
  | (k, d) :: r, q, e => if k = q then (k, e) :: r else (k, d) :: ptK r q e
theorem RpA.map {α : Type} {f : α → V} {g : α → D} {l : List α} (h : ∀ x ∈ l, Rp K H (f x) (g x)) : RpA K H (l.map f) (l.map g) := by
  induction l with
  | nil => exact .nil
  | cons a l ih => exact .cons (h a (List.mem_cons_self)) (ih fun x hx => h x (List.mem_cons_of_mem _ hx))
end

/-! ### what is hidden -/
def hide (H : Hp) (ps : List Addr) : Hp := fun a => if a ∈ ps then none else H a
theorem hide_in {H : Hp} {ps : List Addr} {a : Addr} (h : a ∈ ps) : hide H ps a = none := if_pos h
theorem hide_out {H : Hp} {ps : List Addr} {a : Addr} (h : a ∉ ps) : hide H ps a = H a := if_neg h
theorem hide_same {H : Hp} {ps : List Addr} : Same (hide H ps) H := fun a o e => by
  by_cases h : a ∈ ps
  · rw [hide_in h] at e; cases e
  · rw [hide_out h] at e; exact .inl e
theorem hide_mono {H H' : Hp} {ps : List Addr} (s : Same H H') : Same (hide H ps) (hide H' ps) := fun a o e => by
  by_cases h : a ∈ ps
  · rw [hide_in h] at e; cases e
  · rw [hide_out h] at e ⊢; exact s a o e
theorem hide_sub {H : Hp} {ps qs : List Addr} (h : ∀ p ∈ qs, p ∈ ps) : Same (hide H ps) (hide H qs) := fun a o e => by
  by_cases h1 : a ∈ ps
  · rw [hide_in h1] at e; cases e
  · rw [hide_out h1] at e
    rw [hide_out fun z => h1 (h a z)]; exact .inl e
/-- a hidden object may change -/
theorem hide_upd {H : Hp} {ps : List Addr} {p : Addr} {o : HO} (h : p ∈ ps) : Same (hide H ps) (hide (upd H p o) ps) := fun a u e => by
  by_cases h1 : a ∈ ps
  · rw [hide_in h1] at e; cases e
  · rw [hide_out h1] at e ⊢
    have np : a ≠ p := by
      rintro rfl
      exact h1 h
    rw [upd_ne np]; exact .inl e
theorem same_new {H : Hp} {p : Addr} {o : HO} (h : H p = none) : Same H (upd H p o) := fun a u e => by
  rw [upd_ne (ne_of_none e h)]; exact .inl e
/-- a new object is not hidden, if what is hidden is there -/
theorem hide_new {H : Hp} {ps : List Addr} {p : Addr} {o : HO} (hp : H p = none) (hd : ∀ q ∈ ps, H q ≠ none) : hide (upd H p o) ps p = some o := by
  rw [hide_out fun z => hd p z hp, upd_same]

/-! ### the slots -/
/-- a code object's table stands at P -/
def TabG (H : Hp) (P : Addr) : Prop := ∃ ps : Array Value, H P = some (.tbl ps) ∧ TriplesOk ps.toList
theorem TabG.ext {H H' : Hp} {P : Addr} (h : TabG H P) (k : ∀ o, H P = some o → Ext1 o (H' P)) : TabG H' P := by
  obtain ⟨ps, e, t⟩ := h
  rcases k _ e with z | ⟨qs, qs', z1, z2, z3⟩
  · exact ⟨ps, z, t⟩
  · cases z1
    exact ⟨qs', z2, z3 t⟩
theorem TabG.mono {H H' : Hp} {P : Addr} (s : Same H H') (h : TabG H P) : TabG H' P := h.ext fun o e => s P o e
theorem TabG.ne {H : Hp} {P p : Addr} {u : HO} (h : TabG H P) (e : H p = some u) (n : NT u) : P ≠ p := by
  rintro rfl
  obtain ⟨ps, e2, _⟩ := h
  rw [e] at e2
  cases e2
  exact n
/-- an item of a ghost: data, or another ghost -/
inductive It where
  | da (d : D)
  | rf (a : Addr)
/-- a ghost: what an owned object holds -/
inductive Nd where
  | ls (is : List It)
  | dc (kvs : List (Key × It))
  | ob (C dx : Addr) (fs : List (Str × It))
/-- the ground: the heap at the entry, what the caller hides -/
structure Bx where
  H0 : Hp
  ps : List Addr
  /-- the tables of code objects that stand -/
  ts : List Addr
  /-- ghosts that are only read -/
  gr : List (Addr × Nd)
inductive Sl where
  | no
  | im (d : D)
  | ol (p : Addr) (ds : List D)
  | od (p : Addr) (kvs : List (Key × D))
  | rf (a : Addr)
  | gs (gl : List (Addr × Nd))
  /-- an owned set of ints -/
  | os (p : Addr) (S : List Int)
  /-- an owned table -/
  | ot (p : Addr) (t : List (List Int × Int))
def gown : List (Addr × Nd) → List Addr
  | [] => []
  | (a, .ob _ dx _) :: g => a :: dx :: gown g
  | (a, .ls _) :: g => a :: gown g
  | (a, .dc _) :: g => a :: gown g
def ownOf : Sl → List Addr
  | .ol p _ => [p]
  | .od p _ => [p]
  | .os p _ => [p]
  | .ot p _ => [p]
  | .gs gl => gown gl
  | _ => []
def own : List Sl → List Addr
  | [] => []
  | s :: r => ownOf s ++ own r
abbrev hid (B : Bx) (r : List Sl) (H : Hp) : Hp := hide H (own r ++ B.ps)
def ItOk (K : PySem.W.Frag) (Hh : Hp) : V → It → Prop
  | v, .da d => Rp K Hh v d
  | v, .rf a => v = .ref a
inductive ItA (K : PySem.W.Frag) (Hh : Hp) : List V → List It → Prop
  | nil : ItA K Hh [] []
  | cons {v : V} {vs : List V} {i : It} {is : List It} : ItOk K Hh v i → ItA K Hh vs is → ItA K Hh (v :: vs) (i :: is)
inductive ItK (K : PySem.W.Frag) (Hh : Hp) {κ : Type} : List (κ × V) → List (κ × It) → Prop
  | nil : ItK K Hh [] []
  | cons {k : κ} {v : V} {vs : List (κ × V)} {i : It} {is : List (κ × It)} : ItOk K Hh v i → ItK K Hh vs is → ItK K Hh ((k, v) :: vs) ((k, i) :: is)
def NdOk (K : PySem.W.Frag) (Hh H : Hp) (a : Addr) : Nd → Prop
  | .ls is => ∃ vs, H a = some (.lst vs) ∧ ItA K Hh vs is
  | .dc kvs => ∃ us, H a = some (.dK us) ∧ ItK K Hh us kvs
  | .ob C dx fs => ∃ vs, H a = some (.ins C dx vs) ∧ H dx = some (.own a) ∧ ItK K Hh vs fs
def GOk (K : PySem.W.Frag) (Hh H : Hp) : List (Addr × Nd) → Prop
  | [] => True
  | (a, n) :: g => NdOk K Hh H a n ∧ GOk K Hh H g
def SlOk (K : PySem.W.Frag) (Hh H : Hp) : Sl → Option (Option V) → Prop
  | .no, _ => True
  | .im d, o => ∃ v, o = some (some v) ∧ Rp K Hh v d
  | .rf a, o => o = some (some (.ref a))
  | .gs gl, _ => GOk K Hh H gl
  | .ot p t, o => o = some (some (.ref p)) ∧ H p = some (.dT (tabV t))
  | .os p S, o => o = some (some (.ref p)) ∧ ∃ n, H p = some (.set (fun i => decide (i ∈ S)) n) ∧ n ≤ S.length
  | .ol p ds, o => o = some (some (.ref p)) ∧ ∃ vs, H p = some (.lst vs) ∧ RpA K Hh vs ds
  | .od p kvs, o => o = some (some (.ref p)) ∧ ∃ us, H p = some (.dK us) ∧ RpK K Hh us kvs
structure SOk (K : PySem.W.Frag) (B : Bx) (r : List Sl) (H : Hp) (σ : St) : Prop where
  ex : Same B.H0 H
  old : ∀ p ∈ B.ps, B.H0 p ≠ none
  new : ∀ p ∈ own r, B.H0 p = none
  nd : (own r).Nodup
  len : σ.length = r.length
  sl : ∀ (i : Nat) (s : Sl), r[i]? = some s → SlOk K (hid B r H) H s (σ[i]?)
  tb : ∀ t ∈ B.ts, TabG H t
  gr : GOk K (hid B r H) H B.gr
  gp : ∀ p ∈ gown B.gr, p ∈ B.ps

theorem own_mem : ∀ {r : List Sl} {p : Addr}, p ∈ own r → ∃ (i : Nat) (s : Sl), r[i]? = some s ∧ p ∈ ownOf s
  | s :: r, p, h => by
    rcases List.mem_append.mp h with h | h
    · exact ⟨0, s, rfl, h⟩
    · obtain ⟨i, s', e, q⟩ := own_mem h
      exact ⟨i + 1, s', e, q⟩
theorem mem_own : ∀ {r : List Sl} {p : Addr} {i : Nat} {s : Sl}, r[i]? = some s → p ∈ ownOf s → p ∈ own r
  | _ :: _, _, 0, _, e, q => by simp at e; subst e; exact List.mem_append_left _ q
  | _ :: _, _, i + 1, _, e, q => List.mem_append_right _ (mem_own (i := i) (by simpa using e) q)
theorem own_set_mem {s : Sl} : ∀ {r : List Sl} {i : Nat} {p : Addr}, p ∈ own (r.set i s) → p ∈ ownOf s ∨ p ∈ own r
  | [], _, _, h => .inr h
  | _ :: _, 0, _, h => (List.mem_append.mp h).elim .inl fun z => .inr (List.mem_append_right _ z)
  | _ :: _, i + 1, _, h => (List.mem_append.mp h).elim (fun z => .inr (List.mem_append_left _ z)) fun z => (own_set_mem (i := i) z).elim .inl fun y => .inr (List.mem_append_right _ y)
theorem own_set_nd {s : Sl} (hs : (ownOf s).Nodup) : ∀ {r : List Sl} {i : Nat}, (own r).Nodup → (∀ p ∈ ownOf s, p ∉ own r) → (own (r.set i s)).Nodup
  | [], _, h, _ => h
  | a :: r, 0, h, hn => by
    have h2 := (List.nodup_append.mp h).2.1
    exact List.nodup_append.mpr ⟨hs, h2, fun x hx y hy e => hn x hx (List.mem_append_right _ (e ▸ hy))⟩
  | a :: r, i + 1, h, hn => by
    obtain ⟨h1, h2, h3⟩ := List.nodup_append.mp h
    refine List.nodup_append.mpr ⟨h1, own_set_nd hs (i := i) h2 fun p hp z => hn p hp (List.mem_append_right _ z), fun x hx y hy e => ?_⟩
    subst e
    rcases own_set_mem hy with z | z
    · exact hn x z (List.mem_append_left _ hx)
    · exact h3 x hx x z rfl
theorem own_set_eq {s s' : Sl} (e : ownOf s = ownOf s') : ∀ {r : List Sl} {i : Nat}, r[i]? = some s → own (r.set i s') = own r
  | [], _, h => by simp at h
  | a :: r, 0, h => by
    simp at h; subst h
    show ownOf s' ++ own r = ownOf a ++ own r
    rw [e]
  | a :: r, i + 1, h => by
    show ownOf a ++ own (r.set i s') = ownOf a ++ own r
    rw [own_set_eq e (i := i) (by simpa using h)]
theorem own_apart : ∀ {r : List Sl} {i j : Nat} {s s' : Sl} {p : Addr}, (own r).Nodup → r[i]? = some s → r[j]? = some s' → p ∈ ownOf s → p ∈ ownOf s' → i = j
  | [], _, _, _, _, _, _, h, _, _, _ => by simp at h
  | a :: r, 0, 0, _, _, _, _, _, _, _, _ => rfl
  | a :: r, 0, j + 1, s, s', p, nd, h1, h2, q1, q2 => by
    simp at h1; subst h1
    exact absurd rfl ((List.nodup_append.mp nd).2.2 p q1 p (mem_own (i := j) (by simpa using h2) q2))
  | a :: r, i + 1, 0, s, s', p, nd, h1, h2, q1, q2 => by
    simp at h2; subst h2
    exact absurd rfl ((List.nodup_append.mp nd).2.2 p q2 p (mem_own (i := i) (by simpa using h1) q1))
  | a :: r, i + 1, j + 1, s, s', p, nd, h1, h2, q1, q2 => congrArg (· + 1) (own_apart (i := i) (j := j) (List.nodup_append.mp nd).2.1 (by simpa using h1) (by simpa using h2) q1 q2)

section
variable {K : PySem.W.Frag} {B : Bx} {r : List Sl} {H H' : Hp} {σ : St}
theorem ItOk.mono {Hh Hh' : Hp} {v : V} {i : It} (a : Same Hh Hh') (h : ItOk K Hh v i) : ItOk K Hh' v i := by
  cases i with
  | da d => exact Rp.mono a h
  | rf b => exact h
theorem ItA.mono {Hh Hh' : Hp} {vs : List V} {is : List It} (a : Same Hh Hh') (h : ItA K Hh vs is) : ItA K Hh' vs is := by
  induction h with
  | nil => exact .nil
  | cons h _ ih => exact .cons (h.mono a) ih
theorem ItK.mono {Hh Hh' : Hp} {κ : Type} {vs : List (κ × V)} {is : List (κ × It)} (a : Same Hh Hh') (h : ItK K Hh vs is) : ItK K Hh' vs is := by
  induction h with
  | nil => exact .nil
  | cons h _ ih => exact .cons (h.mono a) ih
theorem GOk.mono {Hh Hh' : Hp} (a : Same Hh Hh') : ∀ {gl : List (Addr × Nd)}, (∀ p ∈ gown gl, H' p = H p) → GOk K Hh H gl → GOk K Hh' H' gl
  | [], _, _ => trivial
  | (p, .ls is) :: g, b, ⟨⟨vs, e, q⟩, t⟩ => ⟨⟨vs, (b p List.mem_cons_self).trans e, q.mono a⟩, GOk.mono a (fun x hx => b x (List.mem_cons_of_mem _ hx)) t⟩
  | (p, .dc is) :: g, b, ⟨⟨vs, e, q⟩, t⟩ => ⟨⟨vs, (b p List.mem_cons_self).trans e, q.mono a⟩, GOk.mono a (fun x hx => b x (List.mem_cons_of_mem _ hx)) t⟩
  | (p, .ob C dx fs) :: g, b, ⟨⟨vs, e, e2, q⟩, t⟩ => ⟨⟨vs, (b p List.mem_cons_self).trans e, (b dx (List.mem_cons_of_mem _ List.mem_cons_self)).trans e2, q.mono a⟩, GOk.mono a (fun x hx => b x (List.mem_cons_of_mem _ (List.mem_cons_of_mem _ hx))) t⟩
theorem GOk.there {Hh : Hp} : ∀ {gl : List (Addr × Nd)}, GOk K Hh H gl → ∀ {p : Addr}, p ∈ gown gl → ∃ u, H p = some u ∧ NT u
  | (a, .ls is) :: g, ⟨⟨vs, e, q⟩, t⟩, p, hp => (List.mem_cons.mp hp).elim (fun z => z ▸ ⟨_, e, trivial⟩) fun z => GOk.there t z
  | (a, .dc is) :: g, ⟨⟨vs, e, q⟩, t⟩, p, hp => (List.mem_cons.mp hp).elim (fun z => z ▸ ⟨_, e, trivial⟩) fun z => GOk.there t z
  | (a, .ob C dx fs) :: g, ⟨⟨vs, e, e2, q⟩, t⟩, p, hp => (List.mem_cons.mp hp).elim (fun z => z ▸ ⟨_, e, trivial⟩) fun z => (List.mem_cons.mp z).elim (fun y => y ▸ ⟨_, e2, trivial⟩) fun y => GOk.there t y
theorem SlOk.mono {Hh Hh' : Hp} {s : Sl} {o : Option (Option V)} (a : Same Hh Hh') (b : ∀ p ∈ ownOf s, H' p = H p) (h : SlOk K Hh H s o) : SlOk K Hh' H' s o := by
  cases s with
  | no => trivial
  | im d => obtain ⟨v, e, q⟩ := h; exact ⟨v, e, q.mono a⟩
  | rf b => exact h
  | gs gl => exact GOk.mono a b h
  | ol p ds => obtain ⟨e, vs, e2, q⟩ := h; exact ⟨e, vs, (b p (List.mem_singleton.mpr rfl)).trans e2, q.mono a⟩
  | od p ds => obtain ⟨e, vs, e2, q⟩ := h; exact ⟨e, vs, (b p (List.mem_singleton.mpr rfl)).trans e2, q.mono a⟩
  | os p S => obtain ⟨e, n, e2, q⟩ := h; exact ⟨e, n, (b p (List.mem_singleton.mpr rfl)).trans e2, q⟩
  | ot p S => exact ⟨h.1, (b p (List.mem_singleton.mpr rfl)).trans h.2⟩
theorem SlOk.there {Hh : Hp} {s : Sl} {o : Option (Option V)} (h : SlOk K Hh H s o) {p : Addr} (hp : p ∈ ownOf s) : ∃ u, H p = some u ∧ NT u := by
  cases s with
  | no => cases hp
  | im d => cases hp
  | rf b => cases hp
  | gs gl => exact GOk.there h hp
  | ol q ds => obtain ⟨_, vs, e2, _⟩ := h; cases List.mem_singleton.mp hp; exact ⟨_, e2, trivial⟩
  | od q ds => obtain ⟨_, vs, e2, _⟩ := h; cases List.mem_singleton.mp hp; exact ⟨_, e2, trivial⟩
  | os q S => obtain ⟨_, vs, e2, _⟩ := h; cases List.mem_singleton.mp hp; exact ⟨_, e2, trivial⟩
  | ot q S => cases List.mem_singleton.mp hp; exact ⟨_, h.2, trivial⟩
theorem SOk.there (S : SOk K B r H σ) {p : Addr} (hp : p ∈ own r) : ∃ u, H p = some u ∧ NT u := by
  obtain ⟨i, s, e, q⟩ := own_mem hp
  exact (S.sl i s e).there q
theorem SOk.dom (S : SOk K B r H σ) : ∀ p ∈ own r ++ B.ps, H p ≠ none := fun p hp z => by
  rcases List.mem_append.mp hp with h | h
  · obtain ⟨u, e, _⟩ := S.there h
    rw [z] at e; cases e
  · cases e : B.H0 p with
    | none => exact S.old p h e
    | some u =>
      have := S.ex p u e
      rw [z] at this; exact this.no
theorem SOk.mono (s : Same H H') (S : SOk K B r H σ) : SOk K B r H' σ :=
  ⟨S.ex.trans s, S.old, S.new, S.nd, S.len, fun i t e => (S.sl i t e).mono (hide_mono s) fun p hp => by
    obtain ⟨u, q, n⟩ := (S.sl i t e).there hp
    rw [q]; exact s.k q n, fun t ht => (S.tb t ht).mono s, GOk.mono (hide_mono s) (fun p hp => by
    obtain ⟨u, q, n⟩ := GOk.there S.gr hp
    rw [q]; exact s.k q n) S.gr, S.gp⟩
/-- the read ghosts are not owned -/
theorem SOk.grn (S : SOk K B r H σ) {p : Addr} (h : p ∈ gown B.gr) : B.H0 p ≠ none := S.old p (S.gp p h)
/-- a slot is stored anew, nothing new is owned -/
theorem SOk.set {i : Nat} {s : Sl} {v : V} (S : SOk K B r H σ) (hs : ownOf s = []) (hv : SlOk K (hid B r H) H s (some (some v))) : SOk K B (r.set i s) H (σ.set i (some v)) := by
  have sub : ∀ p ∈ own (r.set i s), p ∈ own r := fun p hp => (own_set_mem hp).elim (fun z => by rw [hs] at z; cases z) id
  have hh : Same (hid B r H) (hid B (r.set i s) H) := hide_sub fun p hp => (List.mem_append.mp hp).elim (fun z => List.mem_append_left _ (sub p z)) fun z => List.mem_append_right _ z
  refine ⟨S.ex, S.old, fun p hp => S.new p (sub p hp), own_set_nd (by rw [hs]; exact List.nodup_nil) S.nd (fun p hp => by rw [hs] at hp; cases hp), by rw [List.length_set, List.length_set]; exact S.len, fun j t e => ?_, S.tb, GOk.mono hh (fun _ _ => rfl) S.gr, S.gp⟩
  by_cases hj : i = j
  · subst hj
    have hi : i < r.length := by
      have := (List.getElem?_eq_some_iff.mp e).1
      rwa [List.length_set] at this
    rw [List.getElem?_set_self hi] at e
    cases e
    rw [List.getElem?_set_self (by rw [S.len]; exact hi)]
    exact hv.mono hh fun _ _ => rfl
  · rw [List.getElem?_set_ne hj] at e ⊢
    exact (S.sl j t e).mono hh fun _ _ => rfl
theorem SOk.setNo {i : Nat} (S : SOk K B r H σ) : SOk K B (r.set i .no) H (σ.set i none) := by
  have sub : ∀ p ∈ own (r.set i .no), p ∈ own r := fun p hp => (own_set_mem hp).elim (fun z => by cases z) id
  have hh : Same (hid B r H) (hid B (r.set i .no) H) := hide_sub fun p hp => (List.mem_append.mp hp).elim (fun z => List.mem_append_left _ (sub p z)) fun z => List.mem_append_right _ z
  refine ⟨S.ex, S.old, fun p hp => S.new p (sub p hp), own_set_nd (s := .no) List.nodup_nil S.nd (fun p hp => by cases hp), by rw [List.length_set, List.length_set]; exact S.len, fun j t e => ?_, S.tb, GOk.mono hh (fun _ _ => rfl) S.gr, S.gp⟩
  by_cases hj : i = j
  · subst hj
    have hi : i < r.length := by
      have := (List.getElem?_eq_some_iff.mp e).1
      rwa [List.length_set] at this
    rw [List.getElem?_set_self hi] at e
    cases e
    trivial
  · rw [List.getElem?_set_ne hj] at e ⊢
    exact (S.sl j t e).mono hh fun _ _ => rfl
theorem SOk.im {i : Nat} {v : V} {d : D} (S : SOk K B r H σ) (h : Rp K (hid B r H) v d) : SOk K B (r.set i (.im d)) H (σ.set i (some v)) := S.set rfl ⟨v, rfl, h⟩
/-- a new owned object -/
theorem SOk.put {i : Nat} {s : Sl} {p : Addr} {o : HO} (S : SOk K B r H σ) (hs : ownOf s = [p]) (hp : H p = none) (hv : SlOk K (hid B r H) (upd H p o) s (some (some (.ref p)))) : SOk K B (r.set i s) (upd H p o) (σ.set i (some (.ref p))) := by
  have pn : p ∉ own r := fun z => by
    obtain ⟨u, e, _⟩ := S.there z
    rw [hp] at e; cases e
  have p0 : B.H0 p = none := by
    cases e : B.H0 p with
    | none => rfl
    | some u => have := S.ex p u e; rw [hp] at this; exact this.no.elim
  have sub : ∀ q ∈ own (r.set i s), q = p ∨ q ∈ own r := fun q hq => (own_set_mem hq).elim (fun z => by rw [hs] at z; exact .inl (List.mem_singleton.mp z)) .inr
  have hh : Same (hid B r H) (hid B (r.set i s) (upd H p o)) := fun a u e => by
    have e : hide H (own r ++ B.ps) a = some u := e
    show Ext1 u (hide (upd H p o) (own (r.set i s) ++ B.ps) a)
    by_cases ha : a ∈ own r ++ B.ps
    · rw [hide_in ha] at e; cases e
    · rw [hide_out ha] at e
      have np : a ≠ p := ne_of_none e hp
      rw [hide_out fun z => ha ((List.mem_append.mp z).elim (fun y => (sub a y).elim (fun w => absurd w np) fun w => List.mem_append_left _ w) fun y => List.mem_append_right _ y), upd_ne np]
      exact .inl e
  refine ⟨fun a u e => by rw [upd_ne (ne_of_none e p0)]; exact S.ex a u e, S.old, fun q hq => (sub q hq).elim (fun z => z ▸ p0) (S.new q), own_set_nd (by rw [hs]; exact List.nodup_cons.mpr ⟨List.not_mem_nil, List.nodup_nil⟩) S.nd (fun q hq => by rw [hs] at hq; cases List.mem_singleton.mp hq; exact pn), by rw [List.length_set, List.length_set]; exact S.len, fun j t e => ?_, fun t ht => (S.tb t ht).mono (same_new hp), GOk.mono hh (fun q hq => upd_ne fun z => S.grn hq (z ▸ p0)) S.gr, S.gp⟩
  by_cases hj : i = j
  · subst hj
    have hi : i < r.length := by
      have := (List.getElem?_eq_some_iff.mp e).1
      rwa [List.length_set] at this
    rw [List.getElem?_set_self hi] at e
    cases e
    rw [List.getElem?_set_self (by rw [S.len]; exact hi)]
    exact hv.mono hh fun _ _ => rfl
  · rw [List.getElem?_set_ne hj] at e ⊢
    refine (S.sl j t e).mono hh fun q hq => ?_
    rw [upd_ne]
    rintro rfl
    exact pn (mem_own e hq)
/-- an owned object is changed -/
theorem SOk.turn {i : Nat} {s s' : Sl} {p : Addr} {o : HO} (S : SOk K B r H σ) (hi : r[i]? = some s) (hs : ownOf s = [p]) (hs' : ownOf s' = [p]) (hv : SlOk K (hid B r H) (upd H p o) s' (σ[i]?)) : SOk K B (r.set i s') (upd H p o) σ := by
  have oe : own (r.set i s') = own r := own_set_eq (hs.trans hs'.symm) hi
  have pin : p ∈ own r := mem_own hi (by rw [hs]; exact List.mem_singleton.mpr rfl)
  have hh : Same (hid B r H) (hid B (r.set i s') (upd H p o)) := by
    show Same (hide H (own r ++ B.ps)) (hide (upd H p o) (own (r.set i s') ++ B.ps))
    rw [oe]
    exact hide_upd (List.mem_append_left _ pin)
  refine ⟨fun a u e => by rw [upd_ne (ne_of_none e (S.new p pin))]; exact S.ex a u e, S.old, by rw [oe]; exact S.new, by rw [oe]; exact S.nd, by rw [List.length_set]; exact S.len, fun j t e => ?_, fun t ht => ?_, GOk.mono hh (fun q hq => upd_ne fun z => S.grn hq (z ▸ S.new p pin)) S.gr, S.gp⟩
  by_cases hj : i = j
  · subst hj
    have hi' : i < r.length := (List.getElem?_eq_some_iff.mp hi).1
    rw [List.getElem?_set_self hi'] at e
    cases e
    exact hv.mono hh fun _ _ => rfl
  · rw [List.getElem?_set_ne hj] at e
    refine (S.sl j t e).mono hh fun q hq => ?_
    rw [upd_ne]
    rintro rfl
    exact hj (own_apart S.nd hi e (by rw [hs]; exact List.mem_singleton.mpr rfl) hq)
  · obtain ⟨u, eu, nt⟩ := S.there pin
    have := (S.tb t ht).ne eu nt
    exact (S.tb t ht).ext fun o eo => .inl ((upd_ne this).trans eo)
end
/-- what may be forgotten -/
inductive Frz : Addr → Sl → Sl → Prop
  | lst {p : Addr} {ds : List D} : Frz p (.ol p ds) (.im (.list ds))
  | dct {p : Addr} {ds : List (Key × D)} : Frz p (.od p ds) (.im (.dict (ds.map kdm)))
  | tab {p : Addr} {t : List (List Int × Int)} : Frz p (.ot p t) (.im (tabD t))
inductive Wk : List Sl → List Sl → Prop
  | nil : Wk [] []
  | no {s : Sl} {r q : List Sl} : Wk r q → Wk (s :: r) (.no :: q)
  | same {s : Sl} {r q : List Sl} : Wk r q → Wk (s :: r) (s :: q)
  /-- something owned is owned no more: data from now on -/
  | frz {p : Addr} {s t : Sl} {r q : List Sl} : Frz p s t → Wk r q → Wk (s :: r) (t :: q)
theorem Wk.lst {p : Addr} {ds : List D} {r q : List Sl} (h : Wk r q) : Wk (.ol p ds :: r) (.im (.list ds) :: q) := .frz .lst h
theorem Wk.dct {p : Addr} {ds : List (Key × D)} {r q : List Sl} (h : Wk r q) : Wk (.od p ds :: r) (.im (.dict (ds.map kdm)) :: q) := .frz .dct h
theorem Wk.tab {p : Addr} {t : List (List Int × Int)} {r q : List Sl} (h : Wk r q) : Wk (.ot p t :: r) (.im (tabD t) :: q) := .frz .tab h
theorem Frz.own1 {p : Addr} {s t : Sl} (h : Frz p s t) : ownOf s = [p] ∧ ownOf t = [] := by cases h <;> exact ⟨rfl, rfl⟩
theorem Wk.refl : ∀ (r : List Sl), Wk r r
  | [] => .nil
  | _ :: r => .same (Wk.refl r)
theorem Wk.own : ∀ {r q : List Sl}, Wk r q → (own q).Sublist (own r)
  | _, _, .nil => List.Sublist.refl _
  | _, _, .no (s := s) h => h.own.trans (List.sublist_append_right _ _)
  | _, _, .same h => List.Sublist.append (List.Sublist.refl _) h.own
  | _, _, .frz (t := t) (r := r) (q := q) f h => by
    show (ownOf t ++ Tp.own q).Sublist _
    rw [f.own1.2]
    exact h.own.trans (List.sublist_append_right _ _)
theorem Wk.len : ∀ {r q : List Sl}, Wk r q → q.length = r.length
  | _, _, .nil => rfl
  | _, _, .no h => congrArg (· + 1) h.len
  | _, _, .same h => congrArg (· + 1) h.len
  | _, _, .frz _ h => congrArg (· + 1) h.len
theorem Wk.at : ∀ {r q : List Sl} {i : Nat} {s : Sl}, Wk r q → q[i]? = some s → s = .no ∨ r[i]? = some s ∨ ∃ p s', r[i]? = some s' ∧ Frz p s' s ∧ ((Tp.own r).Nodup → p ∉ Tp.own q)
  | _, _, _, _, .nil, e => by simp at e
  | _, _, 0, _, .no h, e => by simp at e; exact .inl e.symm
  | _, _, 0, _, .same h, e => by simp at e; subst e; exact .inr (.inl rfl)
  | _, _, 0, _, .frz (p := p) (s := s) (t := t) (r := r) (q := q) f h, e => by
    simp at e; subst e
    refine .inr (.inr ⟨p, s, rfl, f, fun nd z => ?_⟩)
    have nd : (ownOf s ++ Tp.own r).Nodup := nd
    have z : p ∈ ownOf t ++ Tp.own q := z
    rw [f.own1.1] at nd
    rw [f.own1.2] at z
    exact (List.nodup_append.mp nd).2.2 p (List.mem_singleton.mpr rfl) p (h.own.subset z) rfl
  | _, _, i + 1, s, .no (s := t) h, e => by
    rcases Wk.at (i := i) h (by simpa using e) with z | z | ⟨p, ds, z1, z2, z3⟩
    · exact .inl z
    · exact .inr (.inl (by simpa using z))
    · exact .inr (.inr ⟨p, ds, by simpa using z1, z2, fun nd => z3 (List.nodup_append.mp nd).2.1⟩)
  | _, _, i + 1, s, .same (s := t) h, e => by
    rcases Wk.at (i := i) h (by simpa using e) with z | z | ⟨p, ds, z1, z2, z3⟩
    · exact .inl z
    · exact .inr (.inl (by simpa using z))
    · exact .inr (.inr ⟨p, ds, by simpa using z1, z2, fun nd m => (List.mem_append.mp m).elim (fun y => (List.nodup_append.mp nd).2.2 p y p (mem_own z1 (by rw [z2.own1.1]; exact List.mem_singleton.mpr rfl)) rfl) (z3 (List.nodup_append.mp nd).2.1)⟩)
  | _, _, i + 1, s, .frz (p := p0) (t := t) (q := q) f h, e => by
    rcases Wk.at (i := i) h (by simpa using e) with z | z | ⟨p, ds, z1, z2, z3⟩
    · exact .inl z
    · exact .inr (.inl (by simpa using z))
    · refine .inr (.inr ⟨p, ds, by simpa using z1, z2, fun nd m => z3 (List.nodup_append.mp nd).2.1 ?_⟩)
      have m : p ∈ ownOf t ++ Tp.own q := m
      rw [f.own1.2] at m
      exact m
theorem SOk.weak {K : PySem.W.Frag} {B : Bx} {r q : List Sl} {H : Hp} {σ : St} (w : Wk r q) (S : SOk K B r H σ) : SOk K B q H σ := by
  have sub := w.own.subset
  have hh : Same (hid B r H) (hid B q H) := hide_sub fun p hp => (List.mem_append.mp hp).elim (fun z => List.mem_append_left _ (sub z)) fun z => List.mem_append_right _ z
  have vis : ∀ p, p ∈ Tp.own r → p ∉ Tp.own q → ∀ o, H p = some o → hid B q H p = some o := fun p h1 h2 o e => by
    show hide H (own q ++ B.ps) p = some o
    rw [hide_out fun z => (List.mem_append.mp z).elim h2 fun y => S.old p y (S.new p h1)]; exact e
  refine ⟨S.ex, S.old, fun p hp => S.new p (sub hp), List.Sublist.nodup w.own S.nd, S.len.trans w.len.symm, fun i s e => ?_, S.tb, GOk.mono hh (fun _ _ => rfl) S.gr, S.gp⟩
  rcases w.at e with z | z | ⟨p, s', z1, f, z3⟩
  · subst z; trivial
  · exact (S.sl i s z).mono hh fun _ _ => rfl
  · have vs : ∀ o, H p = some o → hid B q H p = some o := vis p (mem_own z1 (by rw [f.own1.1]; exact List.mem_singleton.mpr rfl)) (z3 S.nd)
    cases f with
    | lst =>
      obtain ⟨e1, us, e2, a⟩ := S.sl i _ z1
      exact ⟨_, e1, .lst (SqL.of (vs _ e2)) (a.mono hh)⟩
    | dct =>
      obtain ⟨e1, us, e2, a⟩ := S.sl i _ z1
      exact ⟨_, e1, .dct (vs _ e2) (a.mono hh)⟩
    | tab =>
      obtain ⟨e1, e2⟩ := S.sl i _ z1
      exact ⟨_, e1, .tab (vs _ e2)⟩
end Tp

namespace Tp
open PySem L2

/-! ### expressions -/
section
variable (X : Cx) (B : Bx)
/-- e evaluates to data d -/
def EV (e : Expr) (r : List Sl) (d : D) : Prop :=
  ∃ te, PE X e te ∧ ∀ H σ, SOk X.K B r H σ → ∀ Q : VK, (∀ v H', Same H H' → Rp X.K (hid B r H') v d → Q v H') → te σ H Q
/-- .. it may be something owned -/
def EH (e : Expr) (r : List Sl) (d : D) : Prop :=
  ∃ te, PE X e te ∧ ∀ H σ, SOk X.K B r H σ → ∀ Q : VK, (∀ v H', Same H H' → Rp X.K H' v d → Q v H') → te σ H Q
/-- a list (a tuple) whose items are not owned -/
def ES (e : Expr) (r : List Sl) (tp : Bool) (ds : List D) : Prop :=
  ∃ te, PE X e te ∧ ∀ H σ, SOk X.K B r H σ → ∀ Q : VK, (∀ a vs H', Same H H' → (if tp = true then SqT X.K H' a vs else SqL X.K H' a vs) → RpA X.K (hid B r H') vs ds → Q (.ref a) H') → te σ H Q
/-- a dict -/
def EK (e : Expr) (r : List Sl) (ps : List (Key × D)) : Prop :=
  ∃ te, PE X e te ∧ ∀ H σ, SOk X.K B r H σ → ∀ Q : VK, (∀ a us H', Same H H' → H' a = some (.dK us) → RpK X.K (hid B r H') us ps → Q (.ref a) H') → te σ H Q
/-- a new object: owned from now on -/
def EN (e : Expr) (r : List Sl) (s : Addr → Sl) : Prop :=
  ∃ te, PE X e te ∧ ∀ H σ, SOk X.K B r H σ → ∀ Q : VK, (∀ p o H', Same H H' → H' p = none → ownOf (s p) = [p] → SlOk X.K (hid B r H') (upd H' p o) (s p) (some (some (.ref p))) → Q (.ref p) (upd H' p o)) → te σ H Q
/-- an argument list -/
def EA (es : List Expr) (r : List Sl) (ds : List D) : Prop :=
  ∃ ta, PA X es ta ∧ ∀ H σ, SOk X.K B r H σ → ∀ Q : List V → Hp → Prop, (∀ vs H', Same H H' → RpA X.K (hid B r H') vs ds → Q vs H') → ta σ H Q
/-- a test -/
def ET (e : Expr) (r : List Sl) (b : Bool) : Prop :=
  ∃ tt, PT X e tt ∧ ∀ H σ, SOk X.K B r H σ → ∀ Q : Bool → Hp → Prop, (∀ H', Same H H' → Q b H') → tt σ H Q
def EW (e : Expr) (r : List Sl) (b : Bool) : Prop :=
  ∃ tt, PW X e tt ∧ ∀ H σ, SOk X.K B r H σ → ∀ Q : Bool → Hp → Prop, (∀ H', Same H H' → Q b H') → tt σ H Q
end

theorem seqS {K : PySem.W.Frag} {H H' : Hp} {tp : Bool} {a : Addr} {vs : List V} (s : Same H H') (h : if tp = true then SqT K H a vs else SqL K H a vs) : if tp = true then SqT K H' a vs else SqL K H' a vs := by
  cases tp with
  | true => exact seqT s h
  | false => exact s.seq h
theorem seqO {K : PySem.W.Frag} {H : Hp} {tp : Bool} {a : Addr} {vs : List V} (h : if tp = true then SqT K H a vs else SqL K H a vs) : SqL K H a vs ∨ SqT K H a vs := by
  cases tp with
  | true => exact .inr h
  | false => exact .inl h

section
variable {X : Cx} {B : Bx} {r : List Sl} {e a b c : Expr} {es : List Expr} {d dx dy dz : D} {ds : List D} {pos : Pos} {tp : Bool}
theorem EV.h (h : EV X B e r d) : EH X B e r d := by
  obtain ⟨te, p, k⟩ := h
  exact ⟨te, p, fun H σ S Q q => k H σ S Q fun v H' s y => q v H' s (y.mono hide_same)⟩
theorem EV.to (h : EV X B e r d) (q : d = dx) : EV X B e r dx := q ▸ h
theorem ET.to {x y : Bool} (h : ET X B e r x) (q : x = y) : ET X B e r y := q ▸ h

/-! constants, names -/
theorem evI {i : Int} {k : Nat} : EV X B (.Constant (.int i) k pos) r (.int i) := ⟨_, pe_int, fun H σ _ Q q => q _ H (Same.refl _) (.int i)⟩
theorem evB {i : Bool} {k : Nat} : EV X B (.Constant (.bool i) k pos) r (.bool i) := ⟨_, pe_bl, fun H σ _ Q q => q _ H (Same.refl _) (.bl i)⟩
theorem evN {k : Nat} : EV X B (.Constant .none k pos) r .none := ⟨_, pe_non, fun H σ _ Q q => q _ H (Same.refl _) .non⟩
theorem evStr {i : Str} {k : Nat} : EV X B (.Constant (.str i) k pos) r (.str i) := ⟨_, pe_str, fun H σ _ Q q => q _ H (Same.refl _) (.str i)⟩
theorem evV (i : Nat) {x : Str} (h : r[i]? = some (.im d)) (hN : X.N[i]? = some x := by rfl) (hv : Vis X.env.scope x := by first | exact Or.inl rfl | exact Or.inr (Or.inl rfl) | exact Or.inr (Or.inr rfl)) (hd : (x == ("__debug__" : Str)) = false := by decide) (hcd : (x == ("__classdict__" : Str)) = false := by decide) :
    EV X B (.Name x pos) r d := ⟨_, pe_var hN hv hd hcd, fun H σ S Q q => by
      obtain ⟨v, e, y⟩ := S.sl i _ h
      exact ⟨v, e, q v H (Same.refl _) y⟩⟩
/-- a name that holds an owned list: as a sequence; as a thing to be compared -/
theorem esO (i : Nat) {x : Str} {p : Addr} (h : r[i]? = some (.ol p ds)) (hN : X.N[i]? = some x := by rfl) (hv : Vis X.env.scope x := by first | exact Or.inl rfl | exact Or.inr (Or.inl rfl) | exact Or.inr (Or.inr rfl)) (hd : (x == ("__debug__" : Str)) = false := by decide) (hcd : (x == ("__classdict__" : Str)) = false := by decide) :
    ES X B (.Name x pos) r false ds := ⟨_, pe_var hN hv hd hcd, fun H σ S Q q => by
      obtain ⟨e, vs, y, z⟩ := S.sl i _ h
      exact ⟨_, e, q p vs H (Same.refl _) (SqL.of y) z⟩⟩
theorem ES.h (h : ES X B e r false ds) : EH X B e r (.list ds) := by
  obtain ⟨te, p, k⟩ := h
  exact ⟨te, p, fun H σ S Q q => k H σ S Q fun a vs H' s y z => q _ H' s (.lst y (z.mono hide_same))⟩
theorem ES.hT (h : ES X B e r true ds) : EH X B e r (.tuple ds) := by
  obtain ⟨te, p, k⟩ := h
  exact ⟨te, p, fun H σ S Q q => k H σ S Q fun a vs H' s y z => q _ H' s (.tup y (z.mono hide_same))⟩
theorem EV.seq (h : EV X B e r (.list ds)) : ES X B e r false ds := by
  obtain ⟨te, p, k⟩ := h
  refine ⟨te, p, fun H σ S Q q => k H σ S Q fun v H' s y => ?_⟩
  cases y with
  | lst h1 h2 => exact q _ _ H' s (hide_same.seq h1) h2
theorem EV.seqT (h : EV X B e r (.tuple ds)) : ES X B e r true ds := by
  obtain ⟨te, p, k⟩ := h
  refine ⟨te, p, fun H σ S Q q => k H σ S Q fun v H' s y => ?_⟩
  cases y with
  | tup h1 h2 => exact q _ _ H' s (Tp.seqT hide_same h1) h2
theorem EV.dct {ps : List (Key × D)} (h : EV X B e r (.dict (ps.map kdm))) : EK X B e r ps := by
  obtain ⟨te, p, k⟩ := h
  refine ⟨te, p, fun H σ S Q q => k H σ S Q fun v H' s y => ?_⟩
  generalize ed : ps.map kdm = qs at y
  cases y with
  | dct h1 h2 =>
    exact q _ _ H' s (hide_same.k h1) (kdm_inj ed ▸ h2)
  | tab h1 =>
    cases ps with
    | nil => cases ed
    | cons x ps =>
      injection ed with e1 e2
      injection e1 with e3 e4
      obtain ⟨kk, dd⟩ := x
      cases kk <;> cases e3
theorem ekO (i : Nat) {x : Str} {p : Addr} {kvs : List (Key × D)} (h : r[i]? = some (.od p kvs)) (hN : X.N[i]? = some x := by rfl) (hv : Vis X.env.scope x := by first | exact Or.inl rfl | exact Or.inr (Or.inl rfl) | exact Or.inr (Or.inr rfl)) (hd : (x == ("__debug__" : Str)) = false := by decide) (hcd : (x == ("__classdict__" : Str)) = false := by decide) :
    EK X B (.Name x pos) r kvs := ⟨_, pe_var hN hv hd hcd, fun H σ S Q q => by
      obtain ⟨e, us, y, z⟩ := S.sl i _ h
      exact ⟨_, e, q p us H (Same.refl _) y z⟩⟩
/-- a module's constant -/
theorem evG {x : Str} {v : V} {u : Value} (hm : X.mg x = some u) (rv : RelV v u) (hd : Rp X.K (fun _ => none) v d) (hg : Gl X x := by rfl) (hdb : (x == ("__debug__" : Str)) = false := by decide) : EV X B (.Name x pos) r d :=
  ⟨_, pe_glob hg hm rv hdb, fun H σ _ Q q => q v H (Same.refl _) (hd.mono fun _ _ z => by cases z)⟩

/-! operators -/
/-- a two-place operator on data -/
def OV (X : Cx) (op : Operator) (dx dy dz : D) : Prop :=
  ∃ rr : R2, OpR X (binaryOp op) rr ∧ ∀ (ps : List Addr) (H : Hp) (x y : V), (∀ p ∈ ps, H p ≠ none) → Rp X.K (hide H ps) x dx → Rp X.K (hide H ps) y dy → ∀ Q : VK, (∀ v H', Same H H' → Rp X.K (hide H' ps) v dz → Q v H') → rr x y H Q
theorem evBin {op : Operator} (ha : EV X B a r dx) (hb : EV X B b r dy) (ho : OV X op dx dy dz) : EV X B (.BinOp a op b pos) r dz := by
  obtain ⟨ta, pa, ka⟩ := ha
  obtain ⟨tb, pb, kb⟩ := hb
  obtain ⟨rr, po, ko⟩ := ho
  exact ⟨_, pe_op po pa pb, fun H σ S Q q => ka H σ S _ fun x H1 s1 r1 => kb H1 σ (S.mono s1) _ fun y H2 s2 r2 =>
    ko _ H2 x y (S.mono (s1.trans s2)).dom (r1.mono (hide_mono s2)) r2 Q fun v H3 s3 r3 => q v H3 (s1.trans (s2.trans s3)) r3⟩
theorem ov_I0 {op : Operator} {g : Int → Int → V} {gd : Int → Int → D} (h : OpR X (binaryOp op) (rI0 g)) (hg : ∀ i j H, Rp X.K H (g i j) (gd i j)) (i j : Int) : OV X op (.int i) (.int j) (gd i j) :=
  ⟨_, h, fun ps H x y _ rx ry Q q => by cases rx; cases ry; exact ⟨i, j, rfl, rfl, q _ H (Same.refl _) (hg i j _)⟩⟩
theorem ov_I {op : Operator} {C : Int → Int → Prop} {g : Int → Int → V} {gd : Int → Int → D} (h : OpR X (binaryOp op) (rI C g)) (hg : ∀ i j H, Rp X.K H (g i j) (gd i j)) (i j : Int) (hc : C i j) : OV X op (.int i) (.int j) (gd i j) :=
  ⟨_, h, fun ps H x y _ rx ry Q q => by cases rx; cases ry; exact ⟨i, j, rfl, rfl, hc, q _ H (Same.refl _) (hg i j _)⟩⟩
theorem ov_add {i j : Int} : OV X .Add (.int i) (.int j) (.int (i + j)) := ov_I0 op_add (gd := fun i j => .int (i + j)) (fun _ _ _ => .int _) i j
theorem ov_sub {i j : Int} : OV X .Sub (.int i) (.int j) (.int (i - j)) := ov_I0 op_sub (gd := fun i j => .int (i - j)) (fun _ _ _ => .int _) i j
theorem ov_mul {i j : Int} (h : CMul i j) : OV X .Mult (.int i) (.int j) (.int (i * j)) := ov_I op_mul (gd := fun i j => .int (i * j)) (fun _ _ _ => .int _) i j h
theorem ov_mulW {i j : Int} (h : CMulW i j) : OV X .Mult (.int i) (.int j) (.int (i * j)) := ov_I op_mulW (gd := fun i j => .int (i * j)) (fun _ _ _ => .int _) i j h
theorem ov_div {i j : Int} (h : CDiv i j) : OV X .FloorDiv (.int i) (.int j) (.int (i / j)) := ov_I op_fdiv (gd := fun i j => .int (i / j)) (fun _ _ _ => .int _) i j h
theorem ov_divW {i j : Int} (h : CDivW i j) : OV X .FloorDiv (.int i) (.int j) (.int (i / j)) := ov_I op_fdivW (gd := fun i j => .int (i / j)) (fun _ _ _ => .int _) i j h
theorem ov_mod {i j : Int} (h : 0 < j) : OV X .Mod (.int i) (.int j) (.int (i % j)) := ov_I op_mod (gd := fun i j => .int (i % j)) (fun _ _ _ => .int _) i j h
theorem ov_pow {i j k : Int} (h : CPow i j) (e : i ^ j.toNat = k) : OV X .Pow (.int i) (.int j) (.int k) := e ▸ ov_I op_pow (gd := fun i j => .int (i ^ j.toNat)) (fun _ _ _ => .int _) i j h
theorem ov_pow15 : OV X .Pow (.int 10) (.int 15) (.int 1000000000000000) := ov_pow ⟨by decide, by decide, by decide⟩ (by decide)
theorem ov_pow12 : OV X .Pow (.int 10) (.int 12) (.int 1000000000000) := ov_pow ⟨by decide, by decide, by decide⟩ (by decide)
theorem ov_pow9 : OV X .Pow (.int 10) (.int 9) (.int 1000000000) := ov_pow ⟨by decide, by decide, by decide⟩ (by decide)
theorem ov_pow18 : OV X .Pow (.int 10) (.int 18) (.int 1000000000000000000) := ov_pow ⟨by decide, by decide, by decide⟩ (by decide)
/-- tuples, lists put together -/
theorem ov_catT {xs ys : List D} (hx : xs ≠ []) (hl : xs.length + ys.length ≤ sizeLine) : OV X .Add (.tuple xs) (.tuple ys) (.tuple (xs ++ ys)) :=
  ⟨_, op_catT, fun ps H x y hd rx ry Q q => by
    cases rx with
    | tup h1 a1 =>
      cases ry with
      | tup h2 a2 =>
        have l1 := a1.len
        have l2 := a2.len
        refine ⟨_, _, _, _, rfl, rfl, Tp.seqT hide_same h1, Tp.seqT hide_same h2, fun z => hx ?_, by omega, fun z => ?_, fun z p hp => ?_⟩
        · subst z; cases a1; rfl
        · subst z; cases a2
          refine q _ H (Same.refl _) (.tup h1 ?_)
          rw [List.append_nil]; exact a1
        · refine q _ _ (same_new hp) (.tup (SqT.of (hide_new hp hd)) ?_)
          exact ((a1.app a2).mono (hide_mono (same_new hp)))⟩

/-! comparisons -/
def CV (X : Cx) (op : CmpOp) (dx dy : D) (b : Bool) : Prop :=
  ∃ rr : R2, OpR X (compareOp op) rr ∧ ∀ (H : Hp) (x y : V), Rp X.K H x dx → Rp X.K H y dy → ∀ Q : VK, Q (.bl b) H → rr x y H Q
theorem CV.to {op : CmpOp} {k k' : Bool} (h : CV X op dx dy k) (e : k = k') : CV X op dx dy k' := e ▸ h
theorem cv_I0 {op : CmpOp} {g : Int → Int → Bool} (h : OpR X (compareOp op) (rI0 fun i j => .bl (g i j))) (i j : Int) : CV X op (.int i) (.int j) (g i j) :=
  ⟨_, h, fun H x y rx ry Q q => by cases rx; cases ry; exact ⟨i, j, rfl, rfl, q⟩⟩
theorem cv_lt {i j : Int} : CV X .Lt (.int i) (.int j) (decide (i < j)) := cv_I0 op_lt i j
theorem cv_le {i j : Int} : CV X .LtE (.int i) (.int j) (decide (i ≤ j)) := cv_I0 op_le i j
theorem cv_gt {i j : Int} : CV X .Gt (.int i) (.int j) (decide (j < i)) := cv_I0 op_gt i j
theorem cv_ge {i j : Int} : CV X .GtE (.int i) (.int j) (decide (j ≤ i)) := cv_I0 op_ge i j
theorem dec_eqv {p q : Prop} [Decidable p] [Decidable q] (h : p ↔ q) : decide p = decide q := by
  by_cases hp : p
  · rw [decide_eq_true hp, decide_eq_true (h.mp hp)]
  · rw [decide_eq_false hp, decide_eq_false fun z => hp (h.mpr z)]
theorem cv_eqI {i j : Int} : CV X .Eq (.int i) (.int j) (decide (i = j)) :=
  ⟨_, op_eq, fun H x y rx ry Q q => by cases rx; cases ry; exact ⟨rfl, by rw [dec_eqv (show V.int i = V.int j ↔ i = j from ⟨fun z => V.int.inj z, fun z => z ▸ rfl⟩)]; exact q⟩⟩
theorem cv_neI {i j : Int} : CV X .NotEq (.int i) (.int j) (!decide (i = j)) :=
  ⟨_, op_ne, fun H x y rx ry Q q => by cases rx; cases ry; exact ⟨rfl, by rw [dec_eqv (show V.int i = V.int j ↔ i = j from ⟨fun z => V.int.inj z, fun z => z ▸ rfl⟩)]; exact q⟩⟩
theorem cv_eqB {i j : Bool} : CV X .Eq (.bool i) (.bool j) (decide (i = j)) :=
  ⟨_, op_eq, fun H x y rx ry Q q => by cases rx; cases ry; exact ⟨rfl, by rw [dec_eqv (show V.bl i = V.bl j ↔ i = j from ⟨fun z => V.bl.inj z, fun z => z ▸ rfl⟩)]; exact q⟩⟩
theorem cv_neB {i j : Bool} : CV X .NotEq (.bool i) (.bool j) (!decide (i = j)) :=
  ⟨_, op_ne, fun H x y rx ry Q q => by cases rx; cases ry; exact ⟨rfl, by rw [dec_eqv (show V.bl i = V.bl j ↔ i = j from ⟨fun z => V.bl.inj z, fun z => z ▸ rfl⟩)]; exact q⟩⟩
theorem cv_eqS {i j : Str} : CV X .Eq (.str i) (.str j) (decide (i = j)) :=
  ⟨_, op_eq, fun H x y rx ry Q q => by cases rx; cases ry; exact ⟨rfl, by rw [dec_eqv (show V.str i = V.str j ↔ i = j from ⟨fun z => V.str.inj z, fun z => z ▸ rfl⟩)]; exact q⟩⟩
theorem cv_neS {i j : Str} : CV X .NotEq (.str i) (.str j) (!decide (i = j)) :=
  ⟨_, op_ne, fun H x y rx ry Q q => by cases rx; cases ry; exact ⟨rfl, by rw [dec_eqv (show V.str i = V.str j ↔ i = j from ⟨fun z => V.str.inj z, fun z => z ▸ rfl⟩)]; exact q⟩⟩
def isN : D → Bool
  | .none => true
  | _ => false
theorem Rp.isN {K : PySem.W.Frag} {H : Hp} {v : V} (h : Rp K H v d) : decide (v = .non) = Tp.isN d := by cases h <;> rfl
theorem cv_isN : CV X .Is d .none (isN d) := ⟨_, op_isN, fun H x y rx ry Q q => by cases ry; exact ⟨rfl, by rw [rx.isN]; exact q⟩⟩
theorem cv_notN : CV X .IsNot d .none (!isN d) := ⟨_, op_notN, fun H x y rx ry Q q => by cases ry; exact ⟨rfl, by rw [rx.isN]; exact q⟩⟩
theorem cv_isB {i j : Bool} : CV X .Is (.bool i) (.bool j) (decide (i = j)) := ⟨_, op_isBl, fun H x y rx ry Q q => by cases rx; cases ry; exact ⟨i, j, rfl, rfl, q⟩⟩
theorem cv_notB {i j : Bool} : CV X .IsNot (.bool i) (.bool j) (!decide (i = j)) := ⟨_, op_notBl, fun H x y rx ry Q q => by cases rx; cases ry; exact ⟨i, j, rfl, rfl, q⟩⟩
theorem evCmp {op : CmpOp} {k : Bool} (ha : EH X B a r dx) (hb : EH X B b r dy) (ho : CV X op dx dy k) (hm : behindInMarks op b = false := by first | exact nomark _ | rfl) : EV X B (.Compare a [op] [b] pos) r (.bool k) := by
  obtain ⟨ta, pa, ka⟩ := ha
  obtain ⟨tb, pb, kb⟩ := hb
  obtain ⟨rr, po, ko⟩ := ho
  exact ⟨_, pe_cmpR po pa pb hm, fun H σ S Q q => ka H σ S _ fun x H1 s1 r1 => kb H1 σ (S.mono s1) _ fun y H2 s2 r2 =>
    ko H2 x y (r1.mono s2) r2 Q (q _ H2 (s1.trans s2) (.bl k))⟩
/-- a op b op' c -/
theorem evChain {op op' : CmpOp} {k k' : Bool} (ha : EH X B a r dx) (hb : EH X B b r dy) (hc : EH X B c r dz) (ho : CV X op dx dy k) (ho' : CV X op' dy dz k') (hm : lastMarks [op, op'] [b, c] = false := by with_unfolding_all rfl) :
    EV X B (.Compare a [op, op'] [b, c] pos) r (.bool (k && k')) := by
  obtain ⟨ta, pa, ka⟩ := ha
  obtain ⟨tb, pb, kb⟩ := hb
  obtain ⟨tc, pc, kc⟩ := hc
  obtain ⟨rr, po, ko⟩ := ho
  obtain ⟨rr', po', ko'⟩ := ho'
  refine ⟨_, pe_chain po po' pa pb pc hm, fun H σ S Q q => ka H σ S _ fun x H1 s1 r1 => kb H1 σ (S.mono s1) _ fun y H2 s2 r2 => ko H2 x y (r1.mono s2) r2 _ ⟨k, rfl, ?_⟩⟩
  cases k with
  | true => exact iteT (kc H2 σ (S.mono (s1.trans s2)) _ fun z H3 s3 r3 => ko' H3 y z (r2.mono s3) r3 _ (q _ H3 (s1.trans (s2.trans s3)) (.bl _)))
  | false => exact iteF (q _ H2 (s1.trans s2) (.bl _))

/-! tests -/
theorem etV {k : Bool} (h : EV X B e r (.bool k)) (he : ∀ whole, isTrue e X.env whole = (do let v ← whole; standAt e.pos; holding [v] (truthy v)) := by intro _; rfl) : ET X B e r k := by
  obtain ⟨te, p, kk⟩ := h
  exact ⟨_, pt_val p he, fun H σ S Q q => kk H σ S _ fun v H' s y => by cases y; exact ⟨k, rfl, q H' s⟩⟩
theorem etCmp {op : CmpOp} {k : Bool} (ha : EH X B a r dx) (hb : EH X B b r dy) (ho : CV X op dx dy k) (hm : behindInMarks op b = false := by first | exact nomark _ | rfl) : ET X B (.Compare a [op] [b] pos) r k := by
  obtain ⟨ta, pa, ka⟩ := ha
  obtain ⟨tb, pb, kb⟩ := hb
  obtain ⟨rr, po, ko⟩ := ho
  exact ⟨_, pt_cmpR po pa pb hm, fun H σ S Q q => ka H σ S _ fun x H1 s1 r1 => kb H1 σ (S.mono s1) _ fun y H2 s2 r2 =>
    ko H2 x y (r1.mono s2) r2 _ ⟨k, rfl, q H2 (s1.trans s2)⟩⟩
theorem etChain {op op' : CmpOp} {k k' : Bool} (ha : EH X B a r dx) (hb : EH X B b r dy) (hc : EH X B c r dz) (ho : CV X op dx dy k) (ho' : CV X op' dy dz k') (hm : lastMarks [op, op'] [b, c] = false := by with_unfolding_all rfl) :
    ET X B (.Compare a [op, op'] [b, c] pos) r (k && k') := by
  obtain ⟨ta, pa, ka⟩ := ha
  obtain ⟨tb, pb, kb⟩ := hb
  obtain ⟨tc, pc, kc⟩ := hc
  obtain ⟨rr, po, ko⟩ := ho
  obtain ⟨rr', po', ko'⟩ := ho'
  refine ⟨_, pt_chain po po' pa pb pc hm, fun H σ S Q q => ka H σ S _ fun x H1 s1 r1 => kb H1 σ (S.mono s1) _ fun y H2 s2 r2 => ko H2 x y (r1.mono s2) r2 _ ⟨k, rfl, ?_⟩⟩
  cases k with
  | true => exact iteT (kc H2 σ (S.mono (s1.trans s2)) _ fun z H3 s3 r3 => ko' H3 y z (r2.mono s3) r3 _ ⟨_, rfl, q H3 (s1.trans (s2.trans s3))⟩)
  | false => exact iteF ⟨_, rfl, q H2 (s1.trans s2)⟩
theorem EW.t {k : Bool} (h : EW X B e r k) : ET X B e r k := by
  obtain ⟨t, p, q⟩ := h
  exact ⟨t, p.pt, q⟩
theorem ewAnd1 {k : Bool} (h : ET X B a r k) : EW X B (.BoolOp .And [a] pos) r k := by
  obtain ⟨t, p, q⟩ := h
  exact ⟨t, pw_and1 p, q⟩
theorem ewOr1 {k : Bool} (h : ET X B a r k) : EW X B (.BoolOp .Or [a] pos) r k := by
  obtain ⟨t, p, q⟩ := h
  exact ⟨t, pw_or1 p, q⟩
theorem ewAnd {k k' : Bool} {rest : List Expr} (h : ET X B a r k) (h' : k = true → EW X B (.BoolOp .And (b :: rest) pos) r k') : EW X B (.BoolOp .And (a :: b :: rest) pos) r (k && k') := by
  obtain ⟨t, p, q⟩ := h
  cases k with
  | true =>
    obtain ⟨t', p', q'⟩ := h' rfl
    exact ⟨_, pw_and p p', fun H σ S Q g => q H σ S _ fun H1 s1 => iteT (q' H1 σ (S.mono s1) _ fun H2 s2 => g H2 (s1.trans s2))⟩
  | false =>
    exact ⟨_, pw_and p (PW_never), fun H σ S Q g => q H σ S _ fun H1 s1 => iteF (g H1 s1)⟩
where PW_never {b : Expr} {rest : List Expr} {pos : Pos} : PW X (.BoolOp .And (b :: rest) pos) (fun _ _ _ => False) := ⟨fun _ _ _ _ _ _ _ h => h.elim⟩
theorem ewOr {k k' : Bool} {rest : List Expr} (h : ET X B a r k) (h' : k = false → EW X B (.BoolOp .Or (b :: rest) pos) r k') : EW X B (.BoolOp .Or (a :: b :: rest) pos) r (k || k') := by
  obtain ⟨t, p, q⟩ := h
  cases k with
  | false =>
    obtain ⟨t', p', q'⟩ := h' rfl
    exact ⟨_, pw_or p p', fun H σ S Q g => q H σ S _ fun H1 s1 => iteF (q' H1 σ (S.mono s1) _ fun H2 s2 => g H2 (s1.trans s2))⟩
  | true =>
    exact ⟨_, pw_or p (PW_never), fun H σ S Q g => q H σ S _ fun H1 s1 => iteT (g H1 s1)⟩
where PW_never {b : Expr} {rest : List Expr} {pos : Pos} : PW X (.BoolOp .Or (b :: rest) pos) (fun _ _ _ => False) := ⟨fun _ _ _ _ _ _ _ h => h.elim⟩
theorem etNot {k : Bool} (h : ET X B a r k) : ET X B (.UnaryOp .Not a pos) r (!k) := by
  obtain ⟨t, p, q⟩ := h
  exact ⟨_, pt_not p, fun H σ S Q g => q H σ S _ fun H1 s1 => g H1 s1⟩
/-- and, or, not as values: bools, the last one any -/
theorem evOne {op : BoolOp} (h : EV X B a r d) : EV X B (.BoolOp op [a] pos) r d := by
  obtain ⟨t, p, q⟩ := h
  exact ⟨_, pe_one p, q⟩
theorem evAnd {k k' : Bool} {rest : List Expr} (h : EV X B a r (.bool k)) (h' : k = true → EV X B (.BoolOp .And (b :: rest) pos) r (.bool k')) : EV X B (.BoolOp .And (a :: b :: rest) pos) r (.bool (k && k')) := by
  obtain ⟨t, p, q⟩ := h
  cases k with
  | true =>
    obtain ⟨t', p', q'⟩ := h' rfl
    exact ⟨_, pe_and p p', fun H σ S Q g => q H σ S _ fun v H1 s1 y => by cases y; exact ⟨true, rfl, iteT (q' H1 σ (S.mono s1) _ fun v H2 s2 z => g v H2 (s1.trans s2) z)⟩⟩
  | false =>
    exact ⟨_, pe_and p (PE_never), fun H σ S Q g => q H σ S _ fun v H1 s1 y => by cases y; exact ⟨false, rfl, iteF (g _ H1 s1 (.bl _))⟩⟩
where PE_never {b : Expr} {rest : List Expr} {pos : Pos} : PE X (.BoolOp .And (b :: rest) pos) (fun _ _ _ => False) := ⟨fun _ _ _ _ _ _ h => h.elim⟩
theorem evOr {k k' : Bool} {rest : List Expr} (h : EV X B a r (.bool k)) (h' : k = false → EV X B (.BoolOp .Or (b :: rest) pos) r (.bool k')) : EV X B (.BoolOp .Or (a :: b :: rest) pos) r (.bool (k || k')) := by
  obtain ⟨t, p, q⟩ := h
  cases k with
  | false =>
    obtain ⟨t', p', q'⟩ := h' rfl
    exact ⟨_, pe_or p p', fun H σ S Q g => q H σ S _ fun v H1 s1 y => by cases y; exact ⟨false, rfl, iteF (q' H1 σ (S.mono s1) _ fun v H2 s2 z => g v H2 (s1.trans s2) z)⟩⟩
  | true =>
    exact ⟨_, pe_or p (PE_never), fun H σ S Q g => q H σ S _ fun v H1 s1 y => by cases y; exact ⟨true, rfl, iteT (g _ H1 s1 (.bl _))⟩⟩
where PE_never {b : Expr} {rest : List Expr} {pos : Pos} : PE X (.BoolOp .Or (b :: rest) pos) (fun _ _ _ => False) := ⟨fun _ _ _ _ _ _ h => h.elim⟩
theorem evAndF {rest : List Expr} (h : EV X B a r (.bool false)) : EV X B (.BoolOp .And (a :: b :: rest) pos) r (.bool false) := evAnd (k' := false) h fun z => nomatch z
theorem evOrT {rest : List Expr} (h : EV X B a r (.bool true)) : EV X B (.BoolOp .Or (a :: b :: rest) pos) r (.bool true) := evOr (k' := false) h fun z => nomatch z
theorem ewAndF {rest : List Expr} (h : ET X B a r false) : EW X B (.BoolOp .And (a :: b :: rest) pos) r false := ewAnd (k' := false) h fun z => nomatch z
theorem ewOrT {rest : List Expr} (h : ET X B a r true) : EW X B (.BoolOp .Or (a :: b :: rest) pos) r true := ewOr (k' := false) h fun z => nomatch z
theorem evNot {k : Bool} (h : EV X B a r (.bool k)) : EV X B (.UnaryOp .Not a pos) r (.bool (!k)) := by
  obtain ⟨t, p, q⟩ := h
  exact ⟨_, pe_not p, fun H σ S Q g => q H σ S _ fun v H1 s1 y => by cases y; exact ⟨k, rfl, g _ H1 s1 (.bl _)⟩⟩
theorem evIf {k : Bool} (h : ET X B c r k) (h1 : k = true → EV X B a r d) (h2 : k = false → EV X B b r d) : EV X B (.IfExp c a b pos) r d := by
  obtain ⟨t, p, q⟩ := h
  cases k with
  | true =>
    obtain ⟨t', p', q'⟩ := h1 rfl
    exact ⟨_, pe_ifExp p p' PE_never, fun H σ S Q g => q H σ S _ fun H1 s1 => iteT (q' H1 σ (S.mono s1) _ fun v H2 s2 z => g v H2 (s1.trans s2) z)⟩
  | false =>
    obtain ⟨t', p', q'⟩ := h2 rfl
    exact ⟨_, pe_ifExp p PE_never p', fun H σ S Q g => q H σ S _ fun H1 s1 => iteF (q' H1 σ (S.mono s1) _ fun v H2 s2 z => g v H2 (s1.trans s2) z)⟩
where PE_never {b : Expr} : PE X b (fun _ _ _ => False) := ⟨fun _ _ _ _ _ _ h => h.elim⟩
/-- truth of a list, of an int -/
theorem etL (h : ES X B e r tp ds) (he : ∀ whole, isTrue e X.env whole = (do let v ← whole; standAt e.pos; holding [v] (truthy v)) := by intro _; rfl) : ET X B e r (!ds.isEmpty) := by
  obtain ⟨t, p, q⟩ := h
  refine ⟨_, pt_truth p he, fun H σ S Q g => q H σ S _ fun a vs H1 s1 y z => ⟨!ds.isEmpty, ?_, g H1 s1⟩⟩
  have e : (!ds.isEmpty) = !vs.isEmpty := by cases z <;> rfl
  cases tp with
  | true => exact .inr (.inl ⟨vs, y, e⟩)
  | false => exact .inl ⟨vs, y, e⟩
theorem etI {i : Int} (h : EV X B e r (.int i)) (he : ∀ whole, isTrue e X.env whole = (do let v ← whole; standAt e.pos; holding [v] (truthy v)) := by intro _; rfl) : ET X B e r (i != 0) := by
  obtain ⟨t, p, q⟩ := h
  exact ⟨_, pt_truth p he, fun H σ S Q g => q H σ S _ fun v H1 s1 y => by cases y; exact ⟨_, rfl, g H1 s1⟩⟩

/-! arguments, displays -/
theorem eaN : EA X B [] r [] := ⟨_, pa_nil, fun H σ _ Q q => q [] H (Same.refl _) .nil⟩
theorem eaC (h : EV X B e r d) (hr : EA X B es r ds) (hs : starEach (e :: es) X.env = (false, eval e X.env) :: starEach es X.env := by rfl) : EA X B (e :: es) r (d :: ds) := by
  obtain ⟨t, p, q⟩ := h
  obtain ⟨t', p', q'⟩ := hr
  exact ⟨_, pa_cons p p' hs, fun H σ S Q g => q H σ S _ fun v H1 s1 y => q' H1 σ (S.mono s1) _ fun vs H2 s2 z => g _ H2 (s1.trans s2) (.cons (y.mono (hide_mono s2)) z)⟩
theorem line_of {n : Nat} (h : n ≤ 100000) : n ≤ sizeLine := Nat.le_trans h (by decide)
theorem evTup {k} (h : EA X B es r ds) (hl : ds.length ≤ 100000 := by first | decide | simp) : EV X B (.Tuple es k pos) r (.tuple ds) := by
  obtain ⟨t, p, q⟩ := h
  refine ⟨_, pe_tup p, fun H σ S Q g => q H σ S _ fun vs H1 s1 y => ⟨by rw [y.len]; exact line_of hl, fun l hl => ?_⟩⟩
  exact g _ _ (s1.trans (same_new hl)) (.tup (SqT.of (hide_new hl (S.mono s1).dom)) (y.mono (hide_mono (same_new hl))))
theorem evLst (h : EA X B es r ds) (hl : ds.length ≤ 100000 := by first | decide | simp) : EV X B (.List es pos) r (.list ds) := by
  obtain ⟨t, p, q⟩ := h
  refine ⟨_, pe_lst p, fun H σ S Q g => q H σ S _ fun vs H1 s1 y => ⟨by rw [y.len]; exact line_of hl, fun l hl => ?_⟩⟩
  exact g _ _ (s1.trans (same_new hl)) (.lst (SqL.of (hide_new hl (S.mono s1).dom)) (y.mono (hide_mono (same_new hl))))
theorem enLst (h : EA X B es r ds) (hl : ds.length ≤ 100000 := by first | decide | simp) : EN X B (.List es pos) r (fun p => .ol p ds) := by
  obtain ⟨t, p, q⟩ := h
  exact ⟨_, pe_lst p, fun H σ S Q g => q H σ S _ fun vs H1 s1 y => ⟨by rw [y.len]; exact line_of hl, fun l hl => g l _ H1 s1 hl rfl ⟨rfl, vs, upd_same, y⟩⟩⟩
theorem enDct : EN X B (.Dict [] [] pos) r (fun p => .od p []) :=
  ⟨_, pe_dnewK, fun H σ S Q g => fun l hl => g l _ H (Same.refl _) hl rfl ⟨rfl, [], upd_same, .nil⟩⟩

/-! items -/
theorem evIx {i : Int} (ha : ES X B a r tp ds) (hb : EV X B b r (.int i)) (hi : atI ds i = some d) (hs : PlainIx b := by exact fun _ _ => rfl) : EV X B (.Subscript a b pos) r d := by
  obtain ⟨ta, pa, ka⟩ := ha
  obtain ⟨tb, pb, kb⟩ := hb
  have at_ : ∀ {H : Hp} {vs : List V}, RpA X.K H vs ds → ∃ v, atI vs i = some v ∧ Rp X.K H v d := fun {H vs} ra => by
    unfold atI at hi ⊢
    rw [ra.len]
    cases e : ixN ds.length i with
    | none => rw [e] at hi; cases hi
    | some j =>
      rw [e] at hi
      obtain ⟨v, h1, h2⟩ := ra.get (i := j) hi
      exact ⟨v, h1, h2⟩
  cases tp with
  | true =>
    exact ⟨_, pe_ix ix_tup pa pb hs, fun H σ S Q q => ka H σ S _ fun l vs H1 s1 y z => kb H1 σ (S.mono s1) _ fun w H2 s2 u => by
      cases u
      obtain ⟨v, h1, h2⟩ := at_ (z.mono (hide_mono s2))
      exact ⟨_, _, _, _, rfl, rfl, Tp.seqT s2 y, h1, q v H2 (s1.trans s2) h2⟩⟩
  | false =>
    exact ⟨_, pe_ix ix_list pa pb hs, fun H σ S Q q => ka H σ S _ fun l vs H1 s1 y z => kb H1 σ (S.mono s1) _ fun w H2 s2 u => by
      cases u
      obtain ⟨v, h1, h2⟩ := at_ (z.mono (hide_mono s2))
      exact ⟨_, _, _, _, rfl, rfl, s2.seq y, h1, q v H2 (s1.trans s2) h2⟩⟩
theorem atI_D {ds : List D} {i : Int} (h0 : 0 ≤ i) (h1 : i < ds.length) : atI ds i = some (ds.getD i.toNat .none) := by
  unfold atI ixN
  rw [if_pos h0, if_pos h1]
  show ds[i.toNat]? = _
  rw [List.getD_eq_getElem?_getD, List.getElem?_eq_getElem (by omega)]
  rfl
theorem atI_of {ds : List D} {i : Int} (h0 : 0 ≤ i) (h : ds[i.toNat]? = some d) : atI ds i = some d := by
  have e : i = ((i.toNat : Nat) : Int) := by omega
  rw [e]
  exact atI_nat h

/-! calls of what is built in -/
/-- no star -/
def NSt (X : Cx) (e : Expr) : Prop := ∀ es, starEach (e :: es) X.env = (false, eval e X.env) :: starEach es X.env
theorem evLen {p : Pos} (h : ES X B e r tp ds) (hm : X.mg "len" = none) (hg : Gl X "len" := by rfl) (hst : NSt X e := by exact fun _ => rfl) : EV X B (.Call (.Name "len" p) [e] [] pos) r (.int ds.length) := by
  obtain ⟨t, pp, q⟩ := h
  exact ⟨_, pe_callB call_len_seq hg hm PySem.boot_len (pa_cons pp pa_nil (hst _)) (he := hst _), fun H σ S Q g => q H σ S _ fun a vs H1 s1 y z => ⟨a, vs, rfl, seqO y, by rw [z.len]; exact g _ H1 s1 (.int _)⟩⟩
theorem evInt {i : Int} {p : Pos} (h : EV X B e r (.int i)) (hm : X.mg "int" = none) (hg : Gl X "int" := by rfl) (hst : NSt X e := by exact fun _ => rfl) : EV X B (.Call (.Name "int" p) [e] [] pos) r (.int i) := by
  obtain ⟨t, pp, q⟩ := h
  exact ⟨_, pe_callTy call_int1 hg hm (by decide +kernel) (pa_cons pp pa_nil (hst _)) (he := hst _), fun H σ S Q g => q H σ S _ fun v H1 s1 y => by cases y; exact .inl ⟨_, rfl, g _ H1 s1 (.int _)⟩⟩
theorem evIntB {i : Bool} {p : Pos} (h : EV X B e r (.bool i)) (hm : X.mg "int" = none) (hg : Gl X "int" := by rfl) (hst : NSt X e := by exact fun _ => rfl) : EV X B (.Call (.Name "int" p) [e] [] pos) r (.int (if i then 1 else 0)) := by
  obtain ⟨t, pp, q⟩ := h
  exact ⟨_, pe_callTy call_int1 hg hm (by decide +kernel) (pa_cons pp pa_nil (hst _)) (he := hst _), fun H σ S Q g => q H σ S _ fun v H1 s1 y => by cases y; exact .inr ⟨_, rfl, g _ H1 s1 (.int _)⟩⟩
theorem evMax {i j : Int} {p : Pos} (ha : EV X B a r (.int i)) (hb : EV X B b r (.int j)) (hc : X.calm = true) (hm : X.mg "max" = none) (hg : Gl X "max" := by rfl) (hst : NSt X a := by exact fun _ => rfl) (hst2 : NSt X b := by exact fun _ => rfl) : EV X B (.Call (.Name "max" p) [a, b] [] pos) r (.int (if j > i then j else i)) := by
  obtain ⟨t, pp, q⟩ := ha
  obtain ⟨t', pp', q'⟩ := hb
  exact ⟨_, pe_callB (call_max2 hc) hg hm (by decide +kernel) (pa_cons pp (pa_cons pp' pa_nil (hst2 _)) (hst _)) (he := hst _) (hpl := by rw [hst2]; rfl), fun H σ S Q g => q H σ S _ fun v H1 s1 y => q' H1 σ (S.mono s1) _ fun v' H2 s2 y' => by cases y; cases y'; exact ⟨_, _, rfl, g _ H2 (s1.trans s2) (.int _)⟩⟩
theorem evMin {i j : Int} {p : Pos} (ha : EV X B a r (.int i)) (hb : EV X B b r (.int j)) (hc : X.calm = true) (hm : X.mg "min" = none) (hg : Gl X "min" := by rfl) (hst : NSt X a := by exact fun _ => rfl) (hst2 : NSt X b := by exact fun _ => rfl) : EV X B (.Call (.Name "min" p) [a, b] [] pos) r (.int (if j < i then j else i)) := by
  obtain ⟨t, pp, q⟩ := ha
  obtain ⟨t', pp', q'⟩ := hb
  exact ⟨_, pe_callB (call_min2 hc) hg hm (by decide +kernel) (pa_cons pp (pa_cons pp' pa_nil (hst2 _)) (hst _)) (he := hst _) (hpl := by rw [hst2]; rfl), fun H σ S Q g => q H σ S _ fun v H1 s1 y => q' H1 σ (S.mono s1) _ fun v' H2 s2 y' => by cases y; cases y'; exact ⟨_, _, rfl, g _ H2 (s1.trans s2) (.int _)⟩⟩
theorem evAbs {i : Int} {p : Pos} (ha : EV X B a r (.int i)) (hm : X.mg "abs" = none) (hg : Gl X "abs" := by rfl) (hst : NSt X a := by exact fun _ => rfl) : EV X B (.Call (.Name "abs" p) [a] [] pos) r (.int (if i < 0 then -i else i)) := by
  obtain ⟨t, pp, q⟩ := ha
  exact ⟨_, pe_callB call_abs hg hm (by decide +kernel) (pa_cons pp pa_nil (hst _)) (he := hst _), fun H σ S Q g => q H σ S _ fun v H1 s1 y => by cases y; exact ⟨_, rfl, g _ H1 s1 (.int _)⟩⟩
theorem evList {p : Pos} (h : ES X B e r tp ds) (hm : X.mg "list" = none) (hg : Gl X "list" := by rfl) (hst : NSt X e := by exact fun _ => rfl) : EV X B (.Call (.Name "list" p) [e] [] pos) r (.list ds) := by
  obtain ⟨t, pp, q⟩ := h
  exact ⟨_, pe_callTy call_list_of hg hm (by decide +kernel) (pa_cons pp pa_nil (hst _)) (he := hst _), fun H σ S Q g => q H σ S _ fun a vs H1 s1 y z => ⟨a, vs, rfl, seqO y, fun l hl =>
    g _ _ (s1.trans (same_new hl)) (.lst (SqL.of (hide_new hl (S.mono s1).dom)) (z.mono (hide_mono (same_new hl))))⟩⟩
theorem enList {p : Pos} (h : ES X B e r tp ds) (hm : X.mg "list" = none) (hg : Gl X "list" := by rfl) (hst : NSt X e := by exact fun _ => rfl) : EN X B (.Call (.Name "list" p) [e] [] pos) r (fun p => .ol p ds) := by
  obtain ⟨t, pp, q⟩ := h
  exact ⟨_, pe_callTy call_list_of hg hm (by decide +kernel) (pa_cons pp pa_nil (hst _)) (he := hst _), fun H σ S Q g => q H σ S _ fun a vs H1 s1 y z => ⟨a, vs, rfl, seqO y, fun l hl => g l _ H1 s1 hl rfl ⟨rfl, vs, upd_same, z⟩⟩⟩
theorem evTuple {p : Pos} (h : ES X B e r false ds) (hm : X.mg "tuple" = none) (hg : Gl X "tuple" := by rfl) (hst : NSt X e := by exact fun _ => rfl) : EV X B (.Call (.Name "tuple" p) [e] [] pos) r (.tuple ds) := by
  obtain ⟨t, pp, q⟩ := h
  exact ⟨_, pe_callTy call_tuple_of hg hm (by decide +kernel) (pa_cons pp pa_nil (hst _)) (he := hst _), fun H σ S Q g => q H σ S _ fun a vs H1 s1 y z => ⟨a, vs, rfl, .inl ⟨y, fun l hl =>
    g _ _ (s1.trans (same_new hl)) (.tup (SqT.of (hide_new hl (S.mono s1).dom)) (z.mono (hide_mono (same_new hl))))⟩⟩⟩
def tyN : D → String
  | .none => "NoneType"
  | .bool _ => "bool"
  | .int _ => "int"
  | .str _ => "str"
  | .list _ => "list"
  | .tuple _ => "tuple"
  | .dict _ => "dict"
theorem Rp.ty {K : PySem.W.Frag} {H : Hp} {v : V} (h : Rp K H v d) : TyX K H v (.type (tyN d)) := by
  cases h with
  | non => exact .base .non
  | bl b => exact .base (.bl b)
  | int i => exact .base (.int i)
  | str x => exact .base (.str x)
  | lst h a =>
    rcases h with (h | ⟨o, h⟩) | ⟨o, its, n, h, hc, _⟩
    · exact .base (.lst h)
    · exact .base (.frz h)
    · exact .kList h hc
  | tup h a =>
    rcases h with (h | ⟨o, h⟩) | ⟨o, its, n, h, hc, _⟩
    · exact .base (.tup h)
    · exact .fTuple h
    · exact .kTuple h hc
  | dct h a => exact .base (.dK h)
  | tab h => exact .base (.dT h)
/-- isinstance(e, T), T a built-in class -/
theorem evIsi {x : Str} (Ts : String) (k : Bool) {s : String} {p p' : Pos} (h : EH X B e r d) (hm : X.mg "isinstance" = none) (hmT : X.mg x = none) (hs : tyN d = s := by first | (show _ = "int"; rfl) | (show _ = "bool"; rfl) | (show _ = "tuple"; rfl) | (show _ = "list"; rfl) | (show _ = "NoneType"; rfl) | (show _ = "str"; rfl) | (show _ = "dict"; rfl)) (hk : kitB s Ts = some k := by decide +kernel) (hT : bootBuiltins x = some (.type Ts) := by decide +kernel)
    (hg : Gl X "isinstance" := by rfl) (hgT : Gl X x := by rfl) (hn : x ≠ "__name__" := by decide) (hd : (x == ("__debug__" : Str)) = false := by decide) (hst : NSt X e := by exact fun _ => rfl) (hst2 : NSt X (.Name x p') := by exact fun _ => rfl) : EV X B (.Call (.Name "isinstance" p) [e, .Name x p'] [] pos) r (.bool k) := by
  obtain ⟨t, pp, q⟩ := h
  exact ⟨_, pe_callB call_isi hg hm (by decide +kernel) (pa_cons pp (pa_cons (pe_bltn (v := .ty Ts) hgT hmT hT rfl hn hd) pa_nil (hst2 _)) (hst _)) (he := hst _) (hpl := by rw [hst2]; rfl), fun H σ S Q g => q H σ S _ fun v H1 s1 y => ⟨v, .ty Ts, _, _, k, rfl, .ty Ts, y.ty, kit_ty (hs ▸ hk), g _ H1 s1 (.bl k)⟩⟩
end
end Tp

namespace Tp
open PySem L2

/-! ### statements -/
/-- what a def hands back: data, or a new list or dict -/
inductive Rs where
  | da (d : D)
  | nl (ds : List D)
  | nd (kvs : List (Key × D))
  | rf (a : Addr)
def RsOk (K : PySem.W.Frag) (B : Bx) (H : Hp) (v : V) : Rs → Prop
  | .da d => Rp K (hide H B.ps) v d
  | .nl ds => ∃ p vs, v = .ref p ∧ B.H0 p = none ∧ H p = some (.lst vs) ∧ RpA K (hide H (p :: B.ps)) vs ds
  | .nd kvs => ∃ p us, v = .ref p ∧ B.H0 p = none ∧ H p = some (.dK us) ∧ RpK K (hide H (p :: B.ps)) us kvs
  | .rf a => v = .ref a
theorem RsOk.sub {K : PySem.W.Frag} {H0 H : Hp} {ps qs : List Addr} {v : V} {s : Rs} (h : ∀ p ∈ qs, p ∈ ps) (x : RsOk K ⟨H0, ps, [], []⟩ H v s) : RsOk K ⟨H0, qs, [], []⟩ H v s := by
  have c : ∀ {l : Addr}, ∀ p ∈ l :: qs, p ∈ l :: ps := fun p hp => (List.mem_cons.mp hp).elim (fun z => z ▸ List.mem_cons_self) fun z => List.mem_cons_of_mem _ (h p z)
  cases s with
  | da d => exact Rp.mono (hide_sub h) x
  | nl ds => obtain ⟨p, vs, e1, e2, e3, e4⟩ := x; exact ⟨p, vs, e1, e2, e3, e4.mono (hide_sub c)⟩
  | nd ds => obtain ⟨p, vs, e1, e2, e3, e4⟩ := x; exact ⟨p, vs, e1, e2, e3, e4.mono (hide_sub c)⟩
  | rf a => exact x
structure Po where
  nx : List Sl → Prop
  rt : Rs → List Sl → Prop
  bk : List Sl → Prop := fun _ => False
  ct : List Sl → Prop := fun _ => False
  ex : Addr → List Sl → Prop := fun _ _ => False
structure Kt (X : Cx) (B : Bx) (W : WX) (P : Po) (E : Ends) : Prop where
  nx : ∀ r σ H, SOk X.K B r H σ → P.nx r → E.nx σ H
  rt : ∀ q v r σ H, SOk X.K B r H σ → RsOk X.K ⟨B.H0, own r ++ B.ps, [], []⟩ H v q → P.rt q r → E.rt v H
  bk : ∀ r σ H, SOk X.K B r H σ → P.bk r → E.bk σ H
  ct : ∀ r σ H, SOk X.K B r H σ → P.ct r → E.ct σ H
  ex : ∀ C r σ H, SOk X.K B r H σ → P.ex C r → W (.ref C) none σ H
/-- the widest readings -/
def wS (X : Cx) (sts : List Stmt) : TS := fun E σ H => ∃ t, PSs X sts t ∧ t E σ H
theorem wS_ok {X : Cx} {sts : List Stmt} : PSs X sts (wS X sts) := ⟨fun pins s σ H E I ⟨_, p, h⟩ => p.run pins s σ H E I h⟩
def wE (X : Cx) (e : Expr) : TE := fun σ H Q => ∃ t, PE X e t ∧ t σ H Q
theorem wE_ok {X : Cx} {e : Expr} : PE X e (wE X e) := ⟨fun pins s σ H Q I ⟨_, p, h⟩ => p.run pins s σ H Q I h⟩
def wT (X : Cx) (e : Expr) : TT := fun σ H Q => ∃ t, PT X e t ∧ t σ H Q
theorem wT_ok {X : Cx} {e : Expr} : PT X e (wT X e) := ⟨fun pins s σ H Q I ⟨_, p, h⟩ => p.run pins s σ H Q I h⟩
/-- the statements lead from r to what P says -/
def SV (X : Cx) (B : Bx) (W : WX) (sts : List Stmt) (r : List Sl) (P : Po) : Prop := ∀ H σ E, SOk X.K B r H σ → Kt X B W P E → wS X sts E σ H
/-- what the rules ask of the context -/
structure Go (X : Cx) (W : WX) (k : Nat) : Prop where
  hr : Room k X.A
  calm : X.calm = true
  po : PassesOwn (model X.prog X.w) X.A X.env X.xe
  tk : Takes X W
  nd : X.N.Nodup
def Po.then (P : Po) (nx : List Sl → Prop) : Po := { P with nx := nx }
def Po.loop (P : Po) (nx bk : List Sl → Prop) : Po := { P with nx := nx, ct := nx, bk := bk }

section
variable {X : Cx} {B : Bx} {W : WX} {P : Po} {r : List Sl} {e a b c : Expr} {es : List Expr} {rest body orelse : List Stmt} {st : Stmt} {d : D} {ds : List D} {pos pos' : Pos} {k kk : Nat}
theorem sv_nil (h : P.nx r) : SV X B W [] r P := fun H σ E S kt => ⟨_, pss_nil, kt.nx r σ H S h⟩
theorem SV.weak {q : List Sl} (w : Wk r q) (h : SV X B W rest q P) : SV X B W rest r P := fun H σ E S kt => h H σ E (S.weak w) kt
theorem Kt.then {E : Ends} {t : TS} {R : List Sl → Prop} (kt : Kt X B W P E) (h : ∀ r σ H, SOk X.K B r H σ → R r → t E σ H) : Kt X B W (P.then R) { E with nx := t E } := ⟨h, kt.rt, kt.bk, kt.ct, kt.ex⟩
theorem pin_rt {K : PySem.W.Frag} {H : Hp} {σ : St} {v : V} (S : SOk K B r H σ) (h : Rp K (hid B r H) v d) : RsOk K ⟨B.H0, own r ++ B.ps, [], []⟩ H v (.da d) := h

theorem sv_pass (h : SV X B W rest r P) : SV X B W (.Pass pos :: rest) r P := fun H σ E S kt => ⟨_, pss_cons ps_pass wS_ok, h H σ E S kt⟩
theorem sv_asg (i : Nat) {x : Str} (g : Go X W k) (he : EV X B e r d) (h : SV X B W rest (r.set i (.im d)) P) (hi : X.N[i]? = some x := by rfl) (hx : Loc X.env.scope x := by first | exact Or.inl rfl | exact Or.inr rfl)
    (hs : swapsWith e (some (.Name x pos')) pos.line X.env = pure false := by rfl) (hf : X.fn x = true ∨ X.env.scope.names.lookup x = some .local := by first | exact .inl rfl | exact .inr rfl) : SV X B W (.Assign [.Name x pos'] e pos :: rest) r P := fun H σ E S kt => by
  obtain ⟨te, p, q⟩ := he
  exact ⟨_, pss_cons (ps_set g.nd hi hx p hs hf) wS_ok, q H σ S _ fun v H1 s1 y => h H1 _ E ((S.mono s1).im y) kt⟩
/-- a new list, a new dict: owned -/
theorem sv_new (i : Nat) {x : Str} {s : Addr → Sl} (g : Go X W k) (he : EN X B e r s) (h : ∀ p, SV X B W rest (r.set i (s p)) P) (hi : X.N[i]? = some x := by rfl) (hx : Loc X.env.scope x := by first | exact Or.inl rfl | exact Or.inr rfl)
    (hs : swapsWith e (some (.Name x pos')) pos.line X.env = pure false := by rfl) (hf : X.fn x = true ∨ X.env.scope.names.lookup x = some .local := by first | exact .inl rfl | exact .inr rfl) : SV X B W (.Assign [.Name x pos'] e pos :: rest) r P := fun H σ E S kt => by
  obtain ⟨te, p, q⟩ := he
  exact ⟨_, pss_cons (ps_set g.nd hi hx p hs hf) wS_ok, q H σ S _ fun l o H1 s1 hl ho hv => h l _ _ E ((S.mono s1).put ho hl hv) kt⟩
theorem sv_drop (he : EV X B e r d) (h : SV X B W rest r P) (hs : swapsWith e none pos.line X.env = pure false := by rfl) : SV X B W (.Expr e pos :: rest) r P := fun H σ E S kt => by
  obtain ⟨te, p, q⟩ := he
  exact ⟨_, pss_cons (ps_expr p hs) wS_ok, q H σ S _ fun v H1 s1 y => h H1 σ E (S.mono s1) kt⟩
theorem sv_ret (he : EV X B e r d) (h : P.rt (.da d) r) : SV X B W (.Return (some e) pos :: rest) r P := fun H σ E S kt => by
  obtain ⟨te, p, q⟩ := he
  exact ⟨_, pss_cons (ps_ret p) wS_ok, q H σ S _ fun v H1 s1 y => kt.rt _ v r σ H1 (S.mono s1) (pin_rt (S.mono s1) y) h⟩
theorem sv_retN (h : P.rt (.da .none) r) : SV X B W (.Return none pos :: rest) r P := fun H σ E S kt => ⟨_, pss_cons ps_retN wS_ok, kt.rt (.da .none) .non r σ H S (show Rp X.K _ V.non .none from .non) h⟩
/-- an owned list is handed back -/
theorem sv_retO (i : Nat) {x : Str} {p : Addr} (hr : r[i]? = some (.ol p ds)) (h : P.rt (.nl ds) r) (hN : X.N[i]? = some x := by rfl) (hv : Vis X.env.scope x := by first | exact Or.inl rfl | exact Or.inr (Or.inl rfl) | exact Or.inr (Or.inr rfl)) (hd : (x == ("__debug__" : Str)) = false := by decide)
    (hcd : (x == ("__classdict__" : Str)) = false := by decide) : SV X B W (.Return (some (.Name x pos')) pos :: rest) r P := fun H σ E S kt => by
  obtain ⟨e, vs, y, z⟩ := S.sl i _ hr
  refine ⟨_, pss_cons (ps_ret (pe_var hN hv hd hcd)) wS_ok, _, e, kt.rt (.nl ds) _ r σ H S ⟨p, vs, rfl, S.new p (mem_own hr (List.mem_singleton.mpr rfl)), y, z.mono (hide_sub fun q hq => ?_)⟩ h⟩
  rcases List.mem_cons.mp hq with rfl | hq
  · exact List.mem_append_left _ (mem_own hr (List.mem_singleton.mpr rfl))
  · exact hq
theorem sv_retK (i : Nat) {x : Str} {p : Addr} {kvs : List (Key × D)} (hr : r[i]? = some (.od p kvs)) (h : P.rt (.nd kvs) r) (hN : X.N[i]? = some x := by rfl) (hv : Vis X.env.scope x := by first | exact Or.inl rfl | exact Or.inr (Or.inl rfl) | exact Or.inr (Or.inr rfl)) (hd : (x == ("__debug__" : Str)) = false := by decide)
    (hcd : (x == ("__classdict__" : Str)) = false := by decide) : SV X B W (.Return (some (.Name x pos')) pos :: rest) r P := fun H σ E S kt => by
  obtain ⟨e, vs, y, z⟩ := S.sl i _ hr
  refine ⟨_, pss_cons (ps_ret (pe_var hN hv hd hcd)) wS_ok, _, e, kt.rt (.nd kvs) _ r σ H S ⟨p, vs, rfl, S.new p (mem_own hr (List.mem_singleton.mpr rfl)), y, z.mono (hide_sub fun q hq => ?_)⟩ h⟩
  rcases List.mem_cons.mp hq with rfl | hq
  · exact List.mem_append_left _ (mem_own hr (List.mem_singleton.mpr rfl))
  · exact hq
/-- if: each way goes on by itself -/
theorem sv_if {k : Bool} (hc : ET X B c r k) (h1 : k = true → SV X B W body r (P.then fun r' => SV X B W rest r' P)) (h2 : k = false → SV X B W orelse r (P.then fun r' => SV X B W rest r' P)) : SV X B W (.If c body orelse pos :: rest) r P := fun H σ E S kt => by
  obtain ⟨t, p, q⟩ := hc
  refine ⟨_, pss_cons (ps_if p wS_ok wS_ok) wS_ok, q H σ S _ fun H1 s1 => ?_⟩
  have kt' : Kt X B W (P.then fun r' => SV X B W rest r' P) { E with nx := wS X rest E } := kt.then (t := wS X rest) fun r' σ' H' S' hR => hR H' σ' E S' kt
  cases k with
  | true => exact iteT (h1 rfl H1 σ _ (S.mono s1) kt')
  | false => exact iteF (h2 rfl H1 σ _ (S.mono s1) kt')
/-- the ways meet -/
theorem sv_ifR {k : Bool} (R : List Sl → Prop) (hc : ET X B c r k) (h1 : k = true → SV X B W body r (P.then R)) (h2 : k = false → SV X B W orelse r (P.then R)) (h : ∀ r', R r' → SV X B W rest r' P) : SV X B W (.If c body orelse pos :: rest) r P := fun H σ E S kt => by
  obtain ⟨t, p, q⟩ := hc
  refine ⟨_, pss_cons (ps_if p wS_ok wS_ok) wS_ok, q H σ S _ fun H1 s1 => ?_⟩
  have kt' : Kt X B W (P.then R) { E with nx := wS X rest E } := kt.then (t := wS X rest) fun r' σ' H' S' hR => h r' hR H' σ' E S' kt
  cases k with
  | true => exact iteT (h1 rfl H1 σ _ (S.mono s1) kt')
  | false => exact iteF (h2 rfl H1 σ _ (S.mono s1) kt')
/-- no else, and the body does not come to its end -/
theorem sv_ifX {k : Bool} (hc : ET X B c r k) (h1 : k = true → SV X B W body r (P.then fun _ => False)) (h : k = false → SV X B W rest r P) : SV X B W (.If c body [] pos :: rest) r P := fun H σ E S kt => by
  obtain ⟨t, p, q⟩ := hc
  refine ⟨_, pss_cons (ps_if p wS_ok pss_nil) wS_ok, q H σ S _ fun H1 s1 => ?_⟩
  cases k with
  | true => exact iteT (h1 rfl H1 σ _ (S.mono s1) (kt.then (t := wS X rest) fun _ _ _ _ z => z.elim))
  | false => exact iteF (h rfl H1 σ E (S.mono s1) kt)
/-- if c: x = e -/
theorem sv_ifI (i : Nat) {x : Str} {k : Bool} {i0 i1 : Int} {px : Pos} (g : Go X W kk) (hc : ET X B c r k) (h0 : r[i]? = some (.im (.int i0))) (he : k = true → EV X B e r (.int i1)) (h : SV X B W rest (r.set i (.im (.int (if k = true then i1 else i0)))) P) (hi : X.N[i]? = some x := by rfl) (hx : Loc X.env.scope x := by first | exact Or.inl rfl | exact Or.inr rfl)
    (hs : swapsWith e (some (.Name x pos')) px.line X.env = pure false := by rfl) (hf : X.fn x = true ∨ X.env.scope.names.lookup x = some .local := by first | exact .inl rfl | exact .inr rfl) : SV X B W (.If c [.Assign [.Name x pos'] e px] [] pos :: rest) r P := by
  refine sv_if hc (fun hk => ?_) fun hk => ?_
  · subst hk
    exact sv_asg i g (he rfl) (sv_nil h) hi hx hs hf
  · subst hk
    refine sv_nil ?_
    have e : r.set i (.im (.int (if false = true then i1 else i0))) = r := by
      rw [if_neg Bool.false_ne_true]
      exact List.set_getElem?_self h0
    rw [e] at h
    exact h
where
  List.set_getElem?_self {α : Type} : ∀ {l : List α} {i : Nat} {a : α}, l[i]? = some a → l.set i a = l
    | [], _, _, h => by simp at h
    | x :: l, 0, a, h => by simp at h; subst h; rfl
    | x :: l, i + 1, a, h => congrArg (x :: ·) (List.set_getElem?_self (i := i) (by simpa using h))
/-- x op= e, ints -/
theorem sv_augA (i : Nat) {x : Str} {a b : Int} (g : Go X W k) (h0 : r[i]? = some (.im (.int a))) (he : EV X B e r (.int b)) (h : SV X B W rest (r.set i (.im (.int (a + b)))) P) (hi : X.N[i]? = some x := by rfl) (hx : Loc X.env.scope x := by first | exact Or.inl rfl | exact Or.inr rfl)
    (hf : X.fn x = true ∨ X.env.scope.names.lookup x = some .local := by first | exact .inl rfl | exact .inr rfl) : SV X B W (.AugAssign (.Name x pos') .Add e pos :: rest) r P := fun H σ E S kt => by
  obtain ⟨te, p, q⟩ := he
  obtain ⟨v, e1, y⟩ := S.sl i _ h0
  cases y
  exact ⟨_, pss_cons (ps_aug g.nd hi hx p ip_add hf) wS_ok, _, e1, q H σ S _ fun v H1 s1 y => by cases y; exact ⟨a, b, rfl, rfl, h H1 _ E ((S.mono s1).im (.int _)) kt⟩⟩
theorem sv_augS (i : Nat) {x : Str} {a b : Int} (g : Go X W k) (h0 : r[i]? = some (.im (.int a))) (he : EV X B e r (.int b)) (h : SV X B W rest (r.set i (.im (.int (a - b)))) P) (hi : X.N[i]? = some x := by rfl) (hx : Loc X.env.scope x := by first | exact Or.inl rfl | exact Or.inr rfl)
    (hf : X.fn x = true ∨ X.env.scope.names.lookup x = some .local := by first | exact .inl rfl | exact .inr rfl) : SV X B W (.AugAssign (.Name x pos') .Sub e pos :: rest) r P := fun H σ E S kt => by
  obtain ⟨te, p, q⟩ := he
  obtain ⟨v, e1, y⟩ := S.sl i _ h0
  cases y
  exact ⟨_, pss_cons (ps_aug g.nd hi hx p ip_sub hf) wS_ok, _, e1, q H σ S _ fun v H1 s1 y => by cases y; exact ⟨a, b, rfl, rfl, h H1 _ E ((S.mono s1).im (.int _)) kt⟩⟩
/-- xs.append(e), xs owned -/
theorem sv_app (i : Nat) {x : Str} {p : Addr} {pc cp : Pos} (hr : r[i]? = some (.ol p ds)) (he : EV X B e r d) (hl : ds.length < 100000) (h : SV X B W rest (r.set i (.ol p (ds ++ [d]))) P) (hN : X.N[i]? = some x := by rfl) (hv : Vis X.env.scope x := by first | exact Or.inl rfl | exact Or.inr (Or.inl rfl) | exact Or.inr (Or.inr rfl)) (hd : (x == ("__debug__" : Str)) = false := by decide)
    (hcd : (x == ("__classdict__" : Str)) = false := by decide) (hs : swapsWith (.Call (.Attribute (.Name x pos') "append" pc) [e] [] cp) none pos.line X.env = pure false := by rfl) (hline : (pc.endLine == cp.line) = true := by rfl) (hst : NSt X e := by exact fun _ => rfl) :
    SV X B W (.Expr (.Call (.Attribute (.Name x pos') "append" pc) [e] [] cp) pos :: rest) r P := fun H σ E S kt => by
  obtain ⟨te, pp, q⟩ := he
  obtain ⟨e1, vs, y, z⟩ := S.sl i _ hr
  refine ⟨_, pss_cons (ps_expr (pe_bm PySem.F.plainAttrs_list PySem.F.slot_list_append PySem.F.type_list_append mt_append (pe_var hN hv hd hcd) (pa_cons pp pa_nil (hst _)) (hbase := by rfl) (hfew := by rw [hst]; rfl) (hline := hline) (hs := hst _) (hplain := by rfl)) hs) wS_ok, _, e1, .inl ⟨rfl, _, SqL.of y⟩, q H σ S _ fun v H1 s1 u => ?_⟩
  have y1 : H1 p = some (.lst vs) := s1.k y
  refine ⟨p, vs, v, rfl, rfl, y1, Nat.lt_of_lt_of_le (by rw [z.len]; exact hl) (by decide : 100000 ≤ sizeLine), ?_⟩
  exact h _ _ E ((S.mono s1).turn hr rfl rfl ⟨e1, _, upd_same, (z.mono (hide_mono s1)).app (.one u)⟩) kt
end
end Tp

namespace Tp
open PySem L2

/-! ### targets, loops -/
section
variable {X : Cx} {B : Bx} {W : WX} {P : Po} {r q : List Sl} {e a b c tg : Expr} {es : List Expr} {rest body orelse : List Stmt} {st : Stmt} {d : D} {ds : List D} {pos pos' : Pos} {k kk : Nat}
def GT (X : Cx) (B : Bx) (tg : Expr) (r : List Sl) (d : D) (q : List Sl) : Prop :=
  ∃ g, PG X tg g ∧ ∀ H σ v, SOk X.K B r H σ → Rp X.K (hid B r H) v d → ∀ Q : St → Hp → Prop, (∀ σ', SOk X.K B q H σ' → Q σ' H) → g v σ H Q
def GTs (X : Cx) (B : Bx) (tgs : List Expr) (r : List Sl) (ds : List D) (q : List Sl) : Prop :=
  ∃ g, PGs X tgs g ∧ ∀ H σ vs, SOk X.K B r H σ → RpA X.K (hid B r H) vs ds → ∀ Q : St → Hp → Prop, (∀ σ', SOk X.K B q H σ' → Q σ' H) → g vs σ H Q
theorem gt_name (i : Nat) {x : Str} (hN : X.N.Nodup) (hi : X.N[i]? = some x := by rfl) (hx : Loc X.env.scope x := by first | exact Or.inl rfl | exact Or.inr rfl) (hf : X.fn x = true ∨ X.env.scope.names.lookup x = some .local := by first | exact .inl rfl | exact .inr rfl) :
    GT X B (.Name x pos) r d (r.set i (.im d)) := ⟨_, pg_name hN hi hx hf, fun H σ v S y Q h => h _ (S.im y)⟩
theorem gts_nil : GTs X B [] r [] r := ⟨_, pgs_nil, fun H σ vs S y Q h => by cases y; exact ⟨rfl, h _ S⟩⟩
theorem gts_cons (i : Nat) {x : Str} (hN : X.N.Nodup) (h2 : GTs X B es (r.set i (.im d)) ds q) (hi : X.N[i]? = some x := by rfl) (hx : Loc X.env.scope x := by first | exact Or.inl rfl | exact Or.inr rfl) (hf : X.fn x = true ∨ X.env.scope.names.lookup x = some .local := by first | exact .inl rfl | exact .inr rfl)
    (hs : (assignEach (.Name x pos :: es) X.env).map (·.2) = assign (.Name x pos) X.env :: (assignEach es X.env).map (·.2) := by rfl) : GTs X B (.Name x pos :: es) r (d :: ds) q := by
  obtain ⟨g, p, k⟩ := h2
  refine ⟨_, pgs_cons (pg_name hN hi hx hf) p hs, fun H σ vs S y Q h => ?_⟩
  cases y with
  | cons y1 y2 =>
    refine ⟨_, _, rfl, k H _ _ (S.im y1) (y2.mono (hide_sub fun p hp => ?_)) Q h⟩
    exact (List.mem_append.mp hp).elim (fun z => (own_set_mem z).elim (fun w => by cases w) fun w => List.mem_append_left _ w) fun z => List.mem_append_right _ z
theorem gt_tup {n : Nat} (hc : X.calm = true) (h : GTs X B es r ds q) (hn : (assignEach es X.env).length = ds.length := by rfl) (hst : (assignEach es X.env).findIdx? (·.1) = none := by rfl) : GT X B (.Tuple es n pos) r (.tuple ds) q := by
  obtain ⟨g, p, k⟩ := h
  refine ⟨_, pg_tup hc p hn hst, fun H σ v S y Q h => ?_⟩
  cases y with
  | tup h1 h2 => exact ⟨_, _, rfl, seqT hide_same h1, h2.len, k H σ _ S h2 Q h⟩
/-- a, b = e -/
theorem sv_asgT (he : EV X B e r d) (ht : GT X B tg r d q) (h : SV X B W rest q P) (hs : swapsWithSole [tg] e pos.line X.env = pure false := by rfl) (hw : swappedStores [tg] e X.env = pure none := by rfl)
    (h1 : (assignEach [tg] X.env).map (·.2) = [assign tg X.env] := by rfl) : SV X B W (.Assign [tg] e pos :: rest) r P := fun H σ E S kt => by
  obtain ⟨te, p, k⟩ := he
  obtain ⟨g, pg, kg⟩ := ht
  exact ⟨_, pss_cons (ps_asg p pg hs hw h1) wS_ok, k H σ S _ fun v H1 s1 y => kg H1 σ v (S.mono s1) y _ fun σ' S' => h H1 σ' E S' kt⟩

def wG (X : Cx) (tg : Expr) : TG := fun v σ H Q => ∃ gx, PG X tg gx ∧ gx v σ H Q
theorem wG_ok : PG X tg (wG X tg) := ⟨fun pins s σ H v u Q I rv ⟨_, p, z⟩ => p.run pins s σ H v u Q I rv z⟩
/-! a loop's ground: what is seen at its start stays -/
def Bx.at (B : Bx) (r : List Sl) (H : Hp) : Bx := ⟨hide H (own r), B.ps, B.ts, B.gr⟩
theorem SOk.rebase {K : PySem.W.Frag} {H : Hp} {σ : St} (S : SOk K B r H σ) : SOk K (B.at r H) r H σ :=
  ⟨hide_same, fun p hp => by
    have h0 := S.old p hp
    show hide H (own r) p ≠ none
    rw [hide_out fun z => h0 (S.new p z)]
    exact S.dom p (List.mem_append_right _ hp), fun p hp => hide_in hp, S.nd, S.len, S.sl, S.tb, S.gr, S.gp⟩
theorem SOk.back {K : PySem.W.Frag} {H H' : Hp} {σ σ' : St} (S : SOk K B r H σ) (S' : SOk K (B.at r H) q H' σ') : SOk K B q H' σ' := by
  have sub : Same B.H0 (hide H (own r)) := fun a o e => by
    rw [hide_out fun z => by rw [S.new a z] at e; cases e]
    exact S.ex a o e
  refine ⟨sub.trans S'.ex, S.old, fun p hp => ?_, S'.nd, S'.len, S'.sl, S'.tb, S'.gr, S'.gp⟩
  cases e : B.H0 p with
  | none => rfl
  | some o =>
    have h1 := S'.new p hp
    obtain ⟨u, e2⟩ := (sub p o e).is
    rw [show (B.at r H).H0 p = some u from e2] at h1
    cases h1
theorem RsOk.back {qs : List Addr} {K : PySem.W.Frag} {H H' : Hp} {σ : St} {v : V} {s : Rs} (S : SOk K B r H σ) (h : RsOk K ⟨(B.at r H).H0, qs, [], []⟩ H' v s) : RsOk K ⟨B.H0, qs, [], []⟩ H' v s := by
  have sub : ∀ p, (B.at r H).H0 p = none → B.H0 p = none := fun p hp => by
    cases e : B.H0 p with
    | none => rfl
    | some o =>
      have h1 : Ext1 o (hide H (own r) p) := by
        rw [hide_out fun z => by rw [S.new p z] at e; cases e]
        exact S.ex p o e
      obtain ⟨u, h1⟩ := h1.is
      rw [show hide H (own r) p = none from hp] at h1
      cases h1
  cases s with
  | da d => exact h
  | nl ds => obtain ⟨p, vs, e1, e2, e3, e4⟩ := h; exact ⟨p, vs, e1, sub p e2, e3, e4⟩
  | nd ds => obtain ⟨p, vs, e1, e2, e3, e4⟩ := h; exact ⟨p, vs, e1, sub p e2, e3, e4⟩
  | rf a => exact h
def LN (I : Nat → List Sl → Prop) (i : Nat) : List Sl → Prop := fun q => ∃ q', Wk q q' ∧ I i q'
theorem ln_of {I : Nat → List Sl → Prop} {i : Nat} {q q' : List Sl} (w : Wk q q') (h : I i q') : LN I i q := ⟨q', w, h⟩
theorem ln_is {I : Nat → List Sl → Prop} {i : Nat} {q : List Sl} (h : I i q) : LN I i q := ⟨q, Wk.refl q, h⟩

theorem loop_nx {I : Nat → List Sl → Prop} {i : Nat} {q q' : List Sl} {bk : List Sl → Prop} (w : Wk q q') (h : I i q') : (P.loop (LN I i) bk).nx q := ⟨q', w, h⟩
/-- for x in range(n) -/
theorem sv_forR (I : Nat → List Sl → Prop) {n : Int} (tq : Nat → List Sl → List Sl) {p cp : Pos} (g : Go X W k) (hn : EV X B a r (.int n)) (hb : -(2 ^ 62) ≤ n ∧ n < 2 ^ 62) (hm : X.mg "range" = none) (ht : ∀ (i : Nat) r', GT X B tg r' (.int (i : Int)) (tq i r')) (h0 : I 0 r)
    (hs : ∀ (i : Nat) r', (i : Int) < n → I i r' → SV X B W body (tq i r') (P.loop (LN I (i + 1)) fun q => SV X B W rest q P)) (hd : ∀ r', I n.toNat r' → SV X B W rest r' P) (hg : Gl X "range" := by rfl)
    (hst : starEach [a] X.env = [(false, eval a X.env)] := by rfl) (hfs : ∀ x, foldedSetIterable (.Call (.Name "range" p) [a] [] cp) X.env x = pure x := by intro _; rfl) : SV X B W (.For tg (.Call (.Name "range" p) [a] [] cp) body [] pos :: rest) r P := fun H σ E S kt => by
  obtain ⟨te, pe, ke⟩ := hn
  refine ⟨_, pss_cons (ps_for g.po g.calm (pi_range1 hg hm (pa_cons pe pa_nil (by rw [hst]; rfl)) hst) (wG_ok (tg := tg)) (wS_ok (sts := body)) hfs) wS_ok, ?_⟩
  refine ke H σ S _ fun v H1 s1 y => ?_
  cases y
  refine ⟨n, rfl, hb.1, hb.2, ?_⟩
  refine for_range (g := wG X tg) (tb := wS X body) (D := { E with nx := wS X rest E }) (lo := 0) (n := n.toNat) (fun i σ' H' => ∃ r', SOk X.K B r' H' σ' ∧ I i r') ⟨r, S.mono s1, h0⟩ (fun i σ' H' hi ⟨r', S', hI⟩ => ?_) (fun σ' H' ⟨r', S', hI⟩ => hd r' hI H' σ' E S' kt)
  obtain ⟨gx, px, kx⟩ := ht i r'
  rw [Int.zero_add]
  refine ⟨gx, px, kx H' σ' _ S' (.int _) _ fun σ2 S2 => hs i r' (by omega) hI H' σ2 _ S2 ⟨?_, kt.rt, ?_, ?_, kt.ex⟩⟩
  · rintro r2 σ3 H3 S3 ⟨q', w, hI'⟩
    exact ⟨q', S3.weak w, hI'⟩
  · exact fun r2 σ3 H3 S3 hb => hb H3 σ3 E S3 kt
  · rintro r2 σ3 H3 S3 ⟨q', w, hI'⟩
    exact ⟨q', S3.weak w, hI'⟩
/-- for x in range(lo, n) -/
theorem sv_forR2 (I : Nat → List Sl → Prop) {lo n : Int} (tq : Nat → List Sl → List Sl) {p cp : Pos} (g : Go X W k) (hl : EV X B a r (.int lo)) (hn : EV X B b r (.int n)) (hb : -(2 ^ 62) ≤ lo ∧ lo < 2 ^ 62 ∧ -(2 ^ 62) ≤ n ∧ n < 2 ^ 62) (hm : X.mg "range" = none) (ht : ∀ (i : Nat) r', GT X B tg r' (.int (lo + (i : Int))) (tq i r')) (h0 : I 0 r)
    (hs : ∀ (i : Nat) r', lo + (i : Int) < n → I i r' → SV X B W body (tq i r') (P.loop (LN I (i + 1)) fun q => SV X B W rest q P)) (hd : ∀ r', I (n - lo).toNat r' → SV X B W rest r' P) (hg : Gl X "range" := by rfl)
    (hst : starEach [a, b] X.env = [(false, eval a X.env), (false, eval b X.env)] := by rfl) (hst2 : starEach [b] X.env = [(false, eval b X.env)] := by rfl) (hfs : ∀ x, foldedSetIterable (.Call (.Name "range" p) [a, b] [] cp) X.env x = pure x := by intro _; rfl) : SV X B W (.For tg (.Call (.Name "range" p) [a, b] [] cp) body [] pos :: rest) r P := fun H σ E S kt => by
  obtain ⟨tl, pl, kl⟩ := hl
  obtain ⟨te, pe, ke⟩ := hn
  refine ⟨_, pss_cons (ps_for g.po g.calm (pi_range2 hg hm (pa_cons pl (pa_cons pe pa_nil (by rw [hst2]; rfl)) (by rw [hst, hst2])) hst hst2) (wG_ok (tg := tg)) (wS_ok (sts := body)) hfs) wS_ok, ?_⟩
  refine kl H σ S _ fun v0 H0 s0 y0 => ke H0 σ (S.mono s0) _ fun v H1 s1 y => ?_
  cases y0
  cases y
  refine ⟨lo, n, rfl, hb, ?_⟩
  refine for_range (g := wG X tg) (tb := wS X body) (D := { E with nx := wS X rest E }) (lo := lo) (n := (n - lo).toNat) (fun i σ' H' => ∃ r', SOk X.K B r' H' σ' ∧ I i r') ⟨r, S.mono (s0.trans s1), h0⟩ (fun i σ' H' hi ⟨r', S', hI⟩ => ?_) (fun σ' H' ⟨r', S', hI⟩ => hd r' hI H' σ' E S' kt)
  obtain ⟨gx, px, kx⟩ := ht i r'
  refine ⟨gx, px, kx H' σ' _ S' (.int _) _ fun σ2 S2 => hs i r' (by omega) hI H' σ2 _ S2 ⟨?_, kt.rt, ?_, ?_, kt.ex⟩⟩
  · rintro r2 σ3 H3 S3 ⟨q', w, hI'⟩
    exact ⟨q', S3.weak w, hI'⟩
  · exact fun r2 σ3 H3 S3 hb => hb H3 σ3 E S3 kt
  · rintro r2 σ3 H3 S3 ⟨q', w, hI'⟩
    exact ⟨q', S3.weak w, hI'⟩
/-- the body's wishes over the loop's ground -/
theorem Kt.loop {E : Ends} {H : Hp} {σ : St} {I : Nat → List Sl → Prop} {i : Nat} (S : SOk X.K B r H σ) (kt : Kt X B W P E) (N : St → Hp → Prop) (hN : ∀ q H' σ', SOk X.K (B.at r H) q H' σ' → I i q → N σ' H') :
    Kt X (B.at r H) W (P.loop (LN I i) fun q => SV X B W rest q P) { nx := N, ct := N, bk := wS X rest E, rt := E.rt } := by
  refine ⟨?_, fun s v q σ' H' S' y => kt.rt s v q σ' H' (S.back S') (RsOk.back S y), fun q σ' H' S' hb => hb H' σ' E (S.back S') kt, ?_, fun C q σ' H' S' => kt.ex C q σ' H' (S.back S')⟩
  · rintro q σ' H' S' ⟨q', w, hI⟩
    exact hN q' H' σ' (S'.weak w) hI
  · rintro q σ' H' S' ⟨q', w, hI⟩
    exact hN q' H' σ' (S'.weak w) hI
/-- for x in a list (data) -/
theorem sv_forL (I : Nat → List Sl → Prop) (tq : D → List Sl → List Sl) (g : Go X W k) (he : EV X B e r (.list ds)) (ht : ∀ B (i : Nat) d r', ds[i]? = some d → GT X B tg r' d (tq d r')) (h0 : I 0 r)
    (hs : ∀ H1 (i : Nat) d r', ds[i]? = some d → I i r' → SV X ⟨H1, B.ps, B.ts, B.gr⟩ W body (tq d r') (P.loop (LN I (i + 1)) fun q => SV X B W rest q P)) (hd : ∀ r', I ds.length r' → SV X B W rest r' P)
    (hfs : ∀ x, foldedSetIterable e X.env x = pure x := by intro _; rfl) : SV X B W (.For tg e body [] pos :: rest) r P := fun H σ E S kt => by
  obtain ⟨te, pe, ke⟩ := he
  refine ⟨_, pss_cons (ps_for g.po g.calm (pi_list pe) (wG_ok (tg := tg)) (wS_ok (sts := body)) hfs) wS_ok, ?_⟩
  refine ke H σ S _ fun v H1 s1 y => ?_
  have S1 := S.mono s1
  cases y with
  | @lst a xs _ h1 h2 =>
    have z1 : SqL X.K (hide H1 (own r)) a xs := (hide_sub fun p hp => List.mem_append_left _ hp : Same (hid B r H1) (hide H1 (own r))).seq h1
    have z2 : RpA X.K (hide (hide H1 (own r)) B.ps) xs ds := h2.mono fun b o eo => by
      have eo : hide H1 (own r ++ B.ps) b = some o := eo
      by_cases hb : b ∈ own r ++ B.ps
      · rw [hide_in hb] at eo; cases eo
      · rw [hide_out hb] at eo
        rw [hide_out fun w => hb (List.mem_append_right _ w), hide_out fun w => hb (List.mem_append_left _ w)]
        exact .inl eo
    refine ⟨a, rfl, ⟨xs, hide_same.seq h1⟩, ?_⟩
    have hl : xs.length = ds.length := h2.len
    refine for_list (g := wG X tg) (tb := wS X body) (D := { E with nx := wS X rest E }) (K := X.K) (a := a) (xs := xs) (fun i σ' H' => ∃ r', SOk X.K (B.at r H1) r' H' σ' ∧ I i r') ⟨r, S1.rebase, h0⟩ (fun i σ' H' _ ⟨r', S', hI⟩ => S'.ex.seq (H := hide H1 (own r)) z1) (fun i x σ' H' hi ⟨r', S', hI⟩ => ?_) (fun σ' H' ⟨r', S', hI⟩ => hd r' (hl ▸ hI) H' σ' E (S1.back S') kt)
    obtain ⟨d, hd', rd⟩ := z2.getV hi
    obtain ⟨gx, px, kx⟩ := ht (B.at r H1) i d r' hd'
    have rd' : Rp X.K (hid (B.at r H1) r' H') x d := rd.mono fun b o eo => by
      show Ext1 o (hide H' (own r' ++ B.ps) b)
      by_cases hb : b ∈ B.ps
      · rw [hide_in hb] at eo; cases eo
      · rw [hide_out hb] at eo
        have e2 : Ext1 o (H' b) := S'.ex b o eo
        rw [hide_out fun w => (List.mem_append.mp w).elim (fun w' => by
          have := S'.new b w'
          rw [show (B.at r H1).H0 b = some o from eo] at this
          cases this) hb]
        exact e2
    exact ⟨gx, px, kx H' σ' _ S' rd' _ fun σ2 S2 => hs (hide H1 (own r)) i d r' hd' hI H' σ2 _ S2 (Kt.loop S1 kt _ fun q H3 σ3 S3 hI3 => ⟨q, S3, hI3⟩)⟩
/-- for x in a tuple (data) -/
theorem sv_forT (I : Nat → List Sl → Prop) (tq : D → List Sl → List Sl) (g : Go X W k) (he : EV X B e r (.tuple ds)) (ht : ∀ B (i : Nat) d r', ds[i]? = some d → GT X B tg r' d (tq d r')) (h0 : I 0 r)
    (hs : ∀ H1 (i : Nat) d r', ds[i]? = some d → I i r' → SV X ⟨H1, B.ps, B.ts, B.gr⟩ W body (tq d r') (P.loop (LN I (i + 1)) fun q => SV X B W rest q P)) (hd : ∀ r', I ds.length r' → SV X B W rest r' P)
    (hfs : ∀ x, foldedSetIterable e X.env x = pure x := by intro _; rfl) : SV X B W (.For tg e body [] pos :: rest) r P := fun H σ E S kt => by
  obtain ⟨te, pe, ke⟩ := he
  refine ⟨_, pss_cons (ps_for g.po g.calm (pi_tup pe) (wG_ok (tg := tg)) (wS_ok (sts := body)) hfs) wS_ok, ?_⟩
  refine ke H σ S _ fun v H1 s1 y => ?_
  have S1 := S.mono s1
  cases y with
  | @tup a xs _ h1 h2 =>
    have z1 : SqT X.K (hide H1 (own r)) a xs := seqT (hide_sub fun p hp => List.mem_append_left _ hp : Same (hid B r H1) (hide H1 (own r))) h1
    have z2 : RpA X.K (hide (hide H1 (own r)) B.ps) xs ds := h2.mono fun b o eo => by
      have eo : hide H1 (own r ++ B.ps) b = some o := eo
      by_cases hb : b ∈ own r ++ B.ps
      · rw [hide_in hb] at eo; cases eo
      · rw [hide_out hb] at eo
        rw [hide_out fun w => hb (List.mem_append_right _ w), hide_out fun w => hb (List.mem_append_left _ w)]
        exact .inl eo
    refine ⟨a, rfl, ⟨xs, seqT hide_same h1⟩, ?_⟩
    have hl : xs.length = ds.length := h2.len
    refine for_tup (g := wG X tg) (tb := wS X body) (D := { E with nx := wS X rest E }) (K := X.K) (a := a) (xs := xs) (fun i σ' H' => ∃ r', SOk X.K (B.at r H1) r' H' σ' ∧ I i r') ⟨r, S1.rebase, h0⟩ (fun i σ' H' _ ⟨r', S', hI⟩ => seqT S'.ex (H := hide H1 (own r)) z1) (fun i x σ' H' hi ⟨r', S', hI⟩ => ?_) (fun σ' H' ⟨r', S', hI⟩ => hd r' (hl ▸ hI) H' σ' E (S1.back S') kt)
    obtain ⟨d, hd', rd⟩ := z2.getV hi
    obtain ⟨gx, px, kx⟩ := ht (B.at r H1) i d r' hd'
    have rd' : Rp X.K (hid (B.at r H1) r' H') x d := rd.mono fun b o eo => by
      show Ext1 o (hide H' (own r' ++ B.ps) b)
      by_cases hb : b ∈ B.ps
      · rw [hide_in hb] at eo; cases eo
      · rw [hide_out hb] at eo
        have e2 : Ext1 o (H' b) := S'.ex b o eo
        rw [hide_out fun w => (List.mem_append.mp w).elim (fun w' => by
          have := S'.new b w'
          rw [show (B.at r H1).H0 b = some o from eo] at this
          cases this) hb]
        exact e2
    exact ⟨gx, px, kx H' σ' _ S' rd' _ fun σ2 S2 => hs (hide H1 (own r)) i d r' hd' hI H' σ2 _ S2 (Kt.loop S1 kt _ fun q H3 σ3 S3 hI3 => ⟨q, S3, hI3⟩)⟩
end

/-! ### defs -/
/-- a def's contract: of the arguments; what is wanted of its result, of the class of an exception -/
abbrev Ct := List D → (Rs → Prop) → (Addr → Prop) → Prop
def spD (T : List Addr) (K : PySem.W.Frag) (c : Ct) : Sp := fun vs H Q E => ∃ ps ds Po Ex, (∀ t ∈ T, TabG H t) ∧ (∀ p ∈ ps, H p ≠ none) ∧ RpA K (hide H ps) vs ds ∧ c ds Po Ex ∧
  (∀ s v H', Same H H' → RsOk K ⟨H, ps, [], []⟩ H' v s → Po s → Q v H') ∧ ∀ C H', Same H H' → Ex C → E (.ref C) none H'
/-- the def called x keeps the contract c -/
def Cal (P : Program) (w : World) (T : List Addr) (K : PySem.W.Frag) (mg : Str → Option Value) (base : Heap) (x : Str) (k : Nat) (c : Ct) : Prop :=
  ∃ f fd ps, FnOk P w K mg base (L2.CX P w) k f fd ps (spD T K c) ∧ mg x = some (.ref f) ∧ PySem.W.keepIn K (.ref f) = true ∧ Binds K fd ps []
def ini (N : List Str) (ds : List D) : List Sl := ds.map Sl.im ++ List.replicate (N.length - ds.length) .no
theorem own_ini : ∀ {ds : List D} {n : Nat}, own (ds.map Sl.im ++ List.replicate n .no) = []
  | [], 0 => rfl
  | [], n + 1 => by
    show own (List.replicate n .no) = []
    exact own_ini (ds := []) (n := n)
  | _ :: ds, n => own_ini (ds := ds) (n := n)
theorem sok_ini {T : List Addr} {K : PySem.W.Frag} {H : Hp} {ps : List Addr} (tb : ∀ t ∈ T, TabG H t) {vs : List V} {ds : List D} {N : List Str} (hp : ∀ p ∈ ps, H p ≠ none) (h : RpA K (hide H ps) vs ds) (hl : ds.length ≤ N.length) : SOk K ⟨H, ps, T, []⟩ (ini N ds) H (L2.start N vs) := by
  have e0 : own (ini N ds) = [] := own_ini
  have hlen := h.len
  refine ⟨Same.refl H, hp, fun p q => (by rw [e0] at q; cases q), (by rw [e0]; exact List.nodup_nil), ?_, fun i s e => ?_, tb, trivial, fun p hp => by cases hp⟩
  · unfold L2.start ini
    simp only [List.length_append, List.length_map, List.length_replicate]
    omega
  · show SlOk K (hide H (own (ini N ds) ++ ps)) H s _
    rw [e0]
    show SlOk K (hide H ps) H s _
    unfold ini at e
    unfold L2.start
    by_cases hi : i < ds.length
    · rw [List.getElem?_append_left (by simpa using hi), List.getElem?_map] at e
      rw [List.getElem?_append_left (by simpa [hlen] using hi), List.getElem?_map]
      cases e2 : ds[i]? with
      | none => rw [e2] at e; cases e
      | some d =>
        rw [e2] at e
        cases e
        obtain ⟨v, h1, h2⟩ := h.get e2
        rw [h1]
        exact ⟨v, rfl, h2⟩
    · rw [List.getElem?_append_right (by simpa using hi)] at e
      have : s = .no := by
        rw [List.getElem?_replicate] at e
        split at e
        · cases e; rfl
        · cases e
      subst this
      trivial
theorem fn_d {P : Program} {w : World} {T : List Addr} {K : PySem.W.Frag} {mg : Str → Option Value} {base : Heap} {x qual : Str} {st : Stmt} {f : Addr} {fd : FuncData} {N ps : List Str} {k : Nat} {c : Ct} (F : Fun K x qual st f fd) (S : FnScope N ps (defScope st))
    (hl : ∀ ds Q E, c ds Q E → ds.length = ps.length)
    (body : ∀ (cdv : Value) (A : Around) (outer : List Env) (s : Shared) (H H0 : Hp) (E : XK) (qs : List Addr) (ds : List D) (Q : Rs → Prop) (Ex : Addr → Prop), Go (cxOf (L2.CX P w) P w K mg base N qual (defScope st) f cdv A outer s H E) (fun cls d _ H => E cls d H) k → c ds Q Ex →
      SV (cxOf (L2.CX P w) P w K mg base N qual (defScope st) f cdv A outer s H E) ⟨H0, qs, T, []⟩ (fun cls d _ H => E cls d H) (defBody st) (ini N ds) { nx := fun _ => Q (.da .none), rt := fun s _ => Q s, ex := fun C _ => Ex C }) :
    FnOk P w K mg base (L2.CX P w) (k + 1) f fd ps (spD T K c) := by
  have hN : ps.length ≤ N.length := by
    have := congrArg List.length S.pre
    rw [List.length_take] at this
    omega
  refine F.okX S (fun vs H Q E h => ?_) (fun cdv A outer s H vs Q E hr h => ?_)
  · obtain ⟨qs, ds, Po, Ex, _, _, ra, hc, _⟩ := h
    rw [ra.len]
    exact hl _ _ _ hc
  · obtain ⟨qs, ds, Po, Ex, tb, hp, ra, hc, k1, k2⟩ := h
    have G : Go (cxOf (L2.CX P w) P w K mg base N qual (defScope st) f cdv A outer s H E) (fun cls d _ H => E cls d H) k :=
      ⟨hr, rfl, passes_of rfl, takes_of rfl rfl rfl rfl, S.nd⟩
    refine ⟨_, wS_ok, body cdv A outer s H H E qs ds Po Ex G hc H _ _ (sok_ini tb hp ra (by rw [hl _ _ _ hc]; exact hN)) ⟨fun r σ' H' S' hq => ?_, fun s v r σ' H' S' y hq => k1 s v H' S'.ex (y.sub fun p hp => List.mem_append_right _ hp) hq, fun _ _ _ _ z => z.elim, fun _ _ _ _ z => z.elim, fun C r σ' H' S' hx => k2 C H' S'.ex hx⟩⟩
    exact k1 (.da .none) .non H' S'.ex (show Rp K _ V.non .none from .non) hq

/-! ### calls -/
section
variable {X : Cx} {B : Bx} {W : WX} {P : Po} {r q : List Sl} {e a b tg : Expr} {es : List Expr} {rest body orelse : List Stmt} {st : Stmt} {d : D} {ds : List D} {pos pos' p : Pos} {k kk : Nat} {x : Str} {c : Ct}
/-- f(e, ..): what it may hand back, what it may raise -/
def EC (X : Cx) (B : Bx) (W : WX) (e : Expr) (r : List Sl) (Po : Rs → Prop) (Ex : Addr → Prop) : Prop :=
  ∃ te, PE X e te ∧ ∀ H σ, SOk X.K B r H σ → ∀ Q : VK, (∀ s v H1 H', Same H H1 → Same H1 H' → RsOk X.K ⟨H1, own r ++ B.ps, [], []⟩ H' v s → Po s → Q v H') → (∀ C H', Same H H' → Ex C → W (.ref C) none σ H') → te σ H Q
theorem ecCall {Po : Rs → Prop} {Ex : Addr → Prop} (g : Go X W kk) (C : Cal X.prog X.w B.ts X.K X.mg X.base x k c) (hk : k ≤ kk) (ha : EA X B (e :: es) r ds) (hc : c ds Po Ex) (hg : Gl X x := by rfl) (hdb : (x == ("__debug__" : Str)) = false := by decide)
    (he : starEach (e :: es) X.env = (false, eval e X.env) :: starEach es X.env := by rfl) (hpl : (backTo pos (starEach es X.env)).any (·.1) = false := by rfl) : EC X B W (.Call (.Name x p) (e :: es) [] pos) r Po Ex := by
  obtain ⟨f, fd, ps, F, hm, hkp, hb⟩ := C
  obtain ⟨ta, pa, ka⟩ := ha
  refine ⟨_, pe_callS F (g.hr.mono hk) hg hm hkp hb (fun σ => passAt g.tk σ) pa hdb he hpl, fun H σ S Q q qx => ka H σ S _ fun vs H1 s1 y => ?_⟩
  exact ⟨own r ++ B.ps, ds, Po, Ex, (S.mono s1).tb, (S.mono s1).dom, y, hc, fun s v H' z ro ho => q s v H1 H' s1 z ro ho, fun C H' z hx => qx C H' (s1.trans z) hx⟩
theorem ecCall0 {Po : Rs → Prop} (g : Go X W kk) (C : Cal X.prog X.w B.ts X.K X.mg X.base x k c) (hk : k ≤ kk) (hc : c [] Po (fun _ => False)) (hg : Gl X x := by rfl) (hdb : (x == ("__debug__" : Str)) = false := by decide) : EC X B W (.Call (.Name x p) [] [] pos) r Po (fun _ => False) := by
  obtain ⟨f, fd, ps, F, hm, hkp, hb⟩ := C
  refine ⟨_, pe_call0 F (g.hr.mono hk) hg hm hkp hb .nil passL hdb, fun H σ S Q q qx => ?_⟩
  exact ⟨own r ++ B.ps, [], Po, fun _ => False, S.tb, S.dom, .nil, hc, fun s v H' z ro ho => q s v H H' (Same.refl H) z ro ho, fun C H' z hx => hx.elim⟩
theorem EC.ev (h : EC X B W e r (fun s => s = .da d) (fun _ => False)) : EV X B e r d := by
  obtain ⟨te, p, k⟩ := h
  exact ⟨te, p, fun H σ S Q q => k H σ S Q (fun s v H1 H' s1 s2 ro e => by subst e; exact q v H' (s1.trans s2) ro) fun _ _ _ z => z.elim⟩
theorem rs_list {K : PySem.W.Frag} {H H1 : Hp} {ps : List Addr} {v : V} (hp : ∀ p ∈ ps, H p ≠ none) (h : RsOk K ⟨H, ps, [], []⟩ H1 v (.nl ds)) : Rp K (hide H1 ps) v (.list ds) := by
  obtain ⟨l, vs, rfl, e0, e1, ra⟩ := h
  refine .lst (SqL.of (by rw [hide_out fun z => hp l z e0]; exact e1)) (ra.mono (hide_sub fun q hq => List.mem_cons_of_mem _ hq))
theorem rs_dict {K : PySem.W.Frag} {H H1 : Hp} {ps : List Addr} {v : V} {kvs : List (Key × D)} (hp : ∀ p ∈ ps, H p ≠ none) (h : RsOk K ⟨H, ps, [], []⟩ H1 v (.nd kvs)) : Rp K (hide H1 ps) v (.dict (kvs.map kdm)) := by
  obtain ⟨l, vs, rfl, e0, e1, ra⟩ := h
  refine .dct (by rw [hide_out fun z => hp l z e0]; exact e1) (ra.mono (hide_sub fun q hq => List.mem_cons_of_mem _ hq))
theorem EC.evL (h : EC X B W e r (fun s => s = .nl ds) (fun _ => False)) : EV X B e r (.list ds) := by
  obtain ⟨te, p, k⟩ := h
  exact ⟨te, p, fun H σ S Q q => k H σ S Q (fun s v H1 H' s1 s2 ro e => by subst e; exact q v H' (s1.trans s2) (rs_list (S.mono s1).dom ro)) fun _ _ _ z => z.elim⟩
theorem EC.evK {kvs : List (Key × D)} (h : EC X B W e r (fun s => s = .nd kvs) (fun _ => False)) : EV X B e r (.dict (kvs.map kdm)) := by
  obtain ⟨te, p, k⟩ := h
  exact ⟨te, p, fun H σ S Q q => k H σ S Q (fun s v H1 H' s1 s2 ro e => by subst e; exact q v H' (s1.trans s2) (rs_dict (S.mono s1).dom ro)) fun _ _ _ z => z.elim⟩
def Rs.sl : Rs → Addr → Sl
  | .da d, _ => .im d
  | .nl ds, p => .ol p ds
  | .nd kvs, p => .od p kvs
  | .rf a, _ => .rf a
theorem heap_split {H : Hp} {p : Addr} {o : HO} (h : H p = some o) : H = upd (fun a => if a = p then none else H a) p o := by
  funext a
  by_cases e : a = p
  · subst e; rw [upd_same]; exact h
  · rw [upd_ne e]; exact (if_neg e).symm
/-- a result is stored -/
theorem SOk.res {K : PySem.W.Frag} {H H1 H' : Hp} {σ : St} {v : V} {s : Rs} {i : Nat} (S : SOk K B r H σ) (s1 : Same H H1) (s2 : Same H1 H') (h : RsOk K ⟨H1, own r ++ B.ps, [], []⟩ H' v s) : ∃ p, SOk K B (r.set i (s.sl p)) H' (σ.set i (some v)) := by
  have S1 := S.mono s1
  cases s with
  | da d => exact ⟨0, (S1.mono s2).im h⟩
  | rf a => exact ⟨0, (S1.mono s2).set (s := .rf a) rfl (congrArg (fun z => some (some z)) h)⟩
  | nl ds =>
    obtain ⟨p, vs, rfl, e0, e1, ra⟩ := h
    have e0 : H1 p = none := e0
    refine ⟨p, ?_⟩
    have sm : Same H1 (fun a => if a = p then none else H' a) := fun a o ea => by
      show Ext1 o (if a = p then none else H' a)
      rw [if_neg (ne_of_none ea e0)]; exact s2 a o ea
    have := (S1.mono sm).put (i := i) (s := .ol p ds) (p := p) (o := .lst vs) rfl (if_pos rfl) ⟨rfl, vs, upd_same, ra.mono fun a o ea => by
      by_cases ha : a ∈ p :: (own r ++ B.ps)
      · rw [hide_in ha] at ea; cases ea
      · rw [hide_out ha] at ea
        show Ext1 o (hide (fun a => if a = p then none else H' a) (own r ++ B.ps) a)
        rw [hide_out fun z => ha (List.mem_cons_of_mem _ z)]
        exact .inl ((if_neg fun (z : a = p) => ha (by rw [z]; exact List.mem_cons_self)).trans ea)⟩
    rw [← heap_split e1] at this
    exact this
  | nd ds =>
    obtain ⟨p, vs, rfl, e0, e1, ra⟩ := h
    have e0 : H1 p = none := e0
    refine ⟨p, ?_⟩
    have sm : Same H1 (fun a => if a = p then none else H' a) := fun a o ea => by
      show Ext1 o (if a = p then none else H' a)
      rw [if_neg (ne_of_none ea e0)]; exact s2 a o ea
    have := (S1.mono sm).put (i := i) (s := .od p ds) (p := p) (o := .dK vs) rfl (if_pos rfl) ⟨rfl, vs, upd_same, ra.mono fun a o ea => by
      by_cases ha : a ∈ p :: (own r ++ B.ps)
      · rw [hide_in ha] at ea; cases ea
      · rw [hide_out ha] at ea
        show Ext1 o (hide (fun a => if a = p then none else H' a) (own r ++ B.ps) a)
        rw [hide_out fun z => ha (List.mem_cons_of_mem _ z)]
        exact .inl ((if_neg fun (z : a = p) => ha (by rw [z]; exact List.mem_cons_self)).trans ea)⟩
    rw [← heap_split e1] at this
    exact this
/-- x = f(..) -/
theorem sv_asgC (i : Nat) {x : Str} {Po : Rs → Prop} {Ex : Addr → Prop} (g : Go X W k) (he : EC X B W e r Po Ex) (h : ∀ s p, Po s → SV X B W rest (r.set i (s.sl p)) P) (hxe : ∀ C, Ex C → P.ex C r) (hi : X.N[i]? = some x := by rfl) (hx : Loc X.env.scope x := by first | exact Or.inl rfl | exact Or.inr rfl)
    (hs : swapsWith e (some (.Name x pos')) pos.line X.env = pure false := by rfl) (hf : X.fn x = true ∨ X.env.scope.names.lookup x = some .local := by first | exact .inl rfl | exact .inr rfl) : SV X B W (.Assign [.Name x pos'] e pos :: rest) r P := fun H σ E S kt => by
  obtain ⟨te, p, q⟩ := he
  exact ⟨_, pss_cons (ps_set g.nd hi hx p hs hf) wS_ok, q H σ S _ (fun s v H1 H' s1 s2 ro ho => by
    obtain ⟨l, S'⟩ := S.res (i := i) s1 s2 ro
    exact h s l ho H' _ E S' kt) fun C H' z hx => kt.ex C r σ H' (S.mono z) (hxe C hx)⟩
/-- f(..) as a statement -/
theorem sv_dropC {Po : Rs → Prop} {Ex : Addr → Prop} (he : EC X B W e r Po Ex) (h : SV X B W rest r P) (hxe : ∀ C, Ex C → P.ex C r) (hs : swapsWith e none pos.line X.env = pure false := by rfl) : SV X B W (.Expr e pos :: rest) r P := fun H σ E S kt => by
  obtain ⟨te, p, q⟩ := he
  exact ⟨_, pss_cons (ps_expr p hs) wS_ok, q H σ S _ (fun s v H1 H' s1 s2 ro ho => h H' σ E (S.mono (s1.trans s2)) kt) fun C H' z hx => kt.ex C r σ H' (S.mono z) (hxe C hx)⟩
/-- return f(..) -/
theorem sv_retC {Po : Rs → Prop} {Ex : Addr → Prop} (he : EC X B W e r Po Ex) (h : ∀ s, Po s → P.rt s r) (hxe : ∀ C, Ex C → P.ex C r) : SV X B W (.Return (some e) pos :: rest) r P := fun H σ E S kt => by
  obtain ⟨te, p, q⟩ := he
  refine ⟨_, pss_cons (ps_ret p) wS_ok, q H σ S _ (fun s v H1 H' s1 s2 ro ho => kt.rt s v r σ H' (S.mono (s1.trans s2)) ?_ (h s ho)) fun C H' z hx => kt.ex C r σ H' (S.mono z) (hxe C hx)⟩
  have up : ∀ l, H1 l = none → B.H0 l = none := fun l hl => by
    cases e0 : B.H0 l with
    | none => rfl
    | some o => have := (S.mono s1).ex l o e0; rw [hl] at this; exact this.no.elim
  cases s with
  | da d => exact ro
  | rf a => exact ro
  | nl ds =>
    obtain ⟨l, vs, e1, e2, e3, e4⟩ := ro
    exact ⟨l, vs, e1, up l e2, e3, e4⟩
  | nd ds =>
    obtain ⟨l, vs, e1, e2, e3, e4⟩ := ro
    exact ⟨l, vs, e1, up l e2, e3, e4⟩
end
end Tp
namespace Tp
open PySem L2
theorem atI_ints {ns : List Int} {i : Int} (h0 : 0 ≤ i) (h1 : i < (ns.map PyData.int).length) : atI (ns.map PyData.int) i = some (.int (ns.getD i.toNat 0)) := by
  have h2 : i.toNat < ns.length := by
    rw [List.length_map] at h1
    omega
  refine atI_of h0 ?_
  rw [List.getElem?_map, List.getElem?_eq_getElem h2, List.getD_eq_getElem?_getD, List.getElem?_eq_getElem h2]
  rfl
end Tp

namespace Tp
open PySem L2
/-! ### dicts -/
theorem RpK.find {K : PySem.W.Frag} {H : Hp} {k : Key} : ∀ {us : List (Key × V)} {kvs : List (Key × D)}, RpK K H us kvs → (valV us k = none ∧ lkK kvs k = none) ∨ ∃ v d, valV us k = some v ∧ lkK kvs k = some d ∧ Rp K H v d
  | _, _, .nil => .inl ⟨rfl, rfl⟩
  | _, _, .cons (k := q) (v := v) (vs := us) (d := d) (ds := kvs) h a => by
    by_cases e : q = k
    · refine .inr ⟨v, d, valV_pos e, ?_, h⟩
      unfold lkK
      exact if_pos e
    · rw [valV_neg (p := (q, v)) e, show lkK ((q, d) :: kvs) k = lkK kvs k from if_neg e]
      exact RpK.find a
theorem RpK.any {K : PySem.W.Frag} {H : Hp} {us : List (Key × V)} {kvs : List (Key × D)} (h : RpK K H us kvs) (p : Key → Bool) : (us.any fun x => p x.1) = kvs.any fun x => p x.1 := by
  have e := congrArg (List.any · p) h.keys
  simpa [List.any_map, Function.comp_def] using e
/-- d[k] = v -/
def putD (kvs : List (Key × D)) (k : Key) (d : D) : List (Key × D) :=
  if (kvs.any fun x => decide (x.1 = k)) = true then kvs.map (fun x => if x.1 = k then (x.1, d) else x) else kvs ++ [(k, d)]
theorem RpK.mapD {K : PySem.W.Frag} {H : Hp} {k : Key} {v : V} {d : D} (hv : Rp K H v d) : ∀ {us : List (Key × V)} {kvs : List (Key × D)}, RpK K H us kvs → RpK K H (us.map fun x => if x.1 = k then (x.1, v) else x) (kvs.map fun x => if x.1 = k then (x.1, d) else x)
  | _, _, .nil => .nil
  | _, _, .cons (k := q) (v := w) (vs := us) (d := e) (ds := kvs) h a => by
    by_cases eq : q = k
    · rw [List.map_cons, List.map_cons, if_pos eq, if_pos eq]
      exact .cons hv (RpK.mapD hv a)
    · rw [List.map_cons, List.map_cons, if_neg eq, if_neg eq]
      exact .cons h (RpK.mapD hv a)
theorem RpK.app {K : PySem.W.Frag} {H : Hp} : ∀ {us : List (Key × V)} {kvs : List (Key × D)} {ws : List (Key × V)} {es : List (Key × D)}, RpK K H us kvs → RpK K H ws es → RpK K H (us ++ ws) (kvs ++ es)
  | _, _, _, _, .nil, b => b
  | _, _, _, _, .cons h a, b => .cons h (RpK.app a b)
theorem RpK.put {K : PySem.W.Frag} {H : Hp} {k : Key} {v : V} {d : D} {us : List (Key × V)} {kvs : List (Key × D)} (h : RpK K H us kvs) (hv : Rp K H v d) : RpK K H (putK us k v) (putD kvs k d) := by
  unfold putK putD
  have e := h.any fun x => decide (x = k)
  rw [show (us.any fun kv => decide (kv.1 = k)) = kvs.any fun x => decide (x.1 = k) from e]
  by_cases c : (kvs.any fun x => decide (x.1 = k)) = true
  · rw [if_pos c, if_pos c]
    exact h.mapD hv
  · rw [if_neg c, if_neg c]
    exact h.app (.cons hv .nil)
theorem putD_len (kvs : List (Key × D)) (k : Key) (d : D) : (putD kvs k d).length ≤ kvs.length + 1 := by
  unfold putD
  split
  · rw [List.length_map]; omega
  · rw [List.length_append]; exact Nat.le_refl _
theorem Rp.key {K : PySem.W.Frag} {H : Hp} {v : V} {k : Key} (h : Rp K H v (kD k)) : v = kV k := by
  cases k with
  | inl i => cases h; rfl
  | inr x => cases h; rfl
theorem cut_same {ds : List D} {vs : List V} {K : PySem.W.Frag} {H : Hp} (h : RpA K H vs ds) (lo hi : Option Int) : RpA K H (cutV vs lo hi) ((ds.drop (HT.sIx ds.length 0 lo)).take (HT.sIx ds.length ds.length hi - HT.sIx ds.length 0 lo)) := by
  unfold cutV
  rw [h.len]
  exact RpA.take _ (RpA.drop _ h)
/-- xs[lo:hi] -/
def cutD (ds : List D) (lo hi : Option Int) : List D := (ds.drop (HT.sIx ds.length 0 lo)).take (HT.sIx ds.length ds.length hi - HT.sIx ds.length 0 lo)

section
variable {X : Cx} {B : Bx} {W : WX} {P : Po} {r q : List Sl} {e a b o tg : Expr} {es : List Expr} {rest body orelse : List Stmt} {st : Stmt} {d dx : D} {ds : List D} {pos pos' p : Pos} {k kk : Nat} {kvs : List (Key × D)}
theorem EV.key {i : Int} (h : EV X B e r (.int i)) : EV X B e r (kD (.inl i)) := h
theorem evDct0 : EV X B (.Dict [] [] pos) r (.dict []) :=
  ⟨_, pe_dnewK, fun H σ S Q g => fun l hl => g _ _ (same_new hl) (Rp.dct (kvs := []) (hide_new hl S.dom) .nil)⟩
theorem m1_of {m : Str} {apos cpos : Pos} (hst : NSt X e) (hb : attributeBase o m X.env (eval o X.env) = eval o X.env) (hl : (apos.endLine == cpos.line) = true) : M1 X o m apos e cpos := ⟨hb, by rw [hst]; rfl, hl, by rw [hst]; rfl⟩
/-- d.get(k) -/
theorem evGet1 {key : Key} {apos cpos : Pos} (g : Go X W kk) (ho : EK X B o r kvs) (he : EV X B e r (kD key)) (hb : attributeBase o "get" X.env (eval o X.env) = eval o X.env := by rfl) (hl : (apos.endLine == cpos.line) = true := by rfl) (hst : NSt X e := by exact fun _ => rfl) :
    EV X B (.Call (.Attribute o "get" apos) [e] [] cpos) r ((lkK kvs key).getD .none) := by
  obtain ⟨t, pp, kp⟩ := ho
  obtain ⟨t', pp', kp'⟩ := he
  refine ⟨_, pe_dget1 (hu_of g.hr) pp pp' (m1_of hst hb hl), fun H σ S Q q => kp H σ S _ fun a us H1 s1 y z => ⟨a, rfl, .inl ⟨us, .inl y⟩, kp' H1 σ (S.mono s1) _ fun v H2 s2 w => ?_⟩⟩
  rw [w.key]
  refine ⟨_, DGet.k (s2.k y), ?_⟩
  rcases (z.mono (hide_mono s2)).find (k := key) with ⟨h1, h2⟩ | ⟨v', d', h1, h2, h3⟩
  · rw [h1]; refine q .non H2 (s1.trans s2) ?_; rw [h2]; exact .non
  · rw [h1]; refine q v' H2 (s1.trans s2) ?_; rw [h2]; exact h3
/-- d[k], there -/
theorem evDix {key : Key} (g : Go X W kk) (ho : EK X B o r kvs) (he : EV X B e r (kD key)) (hk : lkK kvs key = some d) (hs : NoSl e := by first | exact fun _ => rfl | exact fun _ _ => rfl) : EV X B (.Subscript o e pos) r d := by
  obtain ⟨t, pp, kp⟩ := ho
  obtain ⟨t', pp', kp'⟩ := he
  refine ⟨_, pe_dget (hu_of g.hr) pp pp' hs, fun H σ S Q q => kp H σ S _ fun a us H1 s1 y z => kp' H1 σ (S.mono s1) _ fun v H2 s2 w => ?_⟩
  rw [w.key]
  rcases (z.mono (hide_mono s2)).find (k := key) with ⟨h1, h2⟩ | ⟨v', d', h1, h2, h3⟩
  · rw [hk] at h2; cases h2
  · rw [hk] at h2; cases h2
    refine ⟨a, v', rfl, ?_, q v' H2 (s1.trans s2) h3⟩
    rw [← h1]
    exact DGet.k (s2.k y)
theorem etDin {key : Key} (g : Go X W kk) (he : EV X B e r (kD key)) (ho : EK X B o r kvs) (hm : behindInMarks CmpOp.In o = false := by rfl) : EV X B (.Compare e [.In] [o] pos) r (.bool (lkK kvs key).isSome) := by
  obtain ⟨t, pp, kp⟩ := ho
  obtain ⟨t', pp', kp'⟩ := he
  refine ⟨_, pe_cmp (pc_din (hu_of g.hr) pp' pp) hm, fun H σ S Q q => kp' H σ S _ fun v H1 s1 w => kp H1 σ (S.mono s1) _ fun a us H2 s2 y z => ?_⟩
  rw [w.key]
  refine ⟨a, _, rfl, DGet.k y, ?_⟩
  rcases z.find (k := key) with ⟨h1, h2⟩ | ⟨v', d', h1, h2, h3⟩
  · rw [h1]; refine q _ H2 (s1.trans s2) ?_; rw [h2]; exact .bl _
  · rw [h1]; refine q _ H2 (s1.trans s2) ?_; rw [h2]; exact .bl _
theorem etDnin {key : Key} (g : Go X W kk) (he : EV X B e r (kD key)) (ho : EK X B o r kvs) (hm : behindInMarks CmpOp.NotIn o = false := by rfl) : EV X B (.Compare e [.NotIn] [o] pos) r (.bool (!(lkK kvs key).isSome)) := by
  obtain ⟨t, pp, kp⟩ := ho
  obtain ⟨t', pp', kp'⟩ := he
  refine ⟨_, pe_cmp (pc_dnotin (hu_of g.hr) pp' pp) hm, fun H σ S Q q => kp' H σ S _ fun v H1 s1 w => kp H1 σ (S.mono s1) _ fun a us H2 s2 y z => ?_⟩
  rw [w.key]
  refine ⟨a, _, rfl, DGet.k y, ?_⟩
  rcases z.find (k := key) with ⟨h1, h2⟩ | ⟨v', d', h1, h2, h3⟩
  · rw [h1]; refine q _ H2 (s1.trans s2) ?_; rw [h2]; exact .bl _
  · rw [h1]; refine q _ H2 (s1.trans s2) ?_; rw [h2]; exact .bl _
/-- d[k] = e, d owned -/
theorem sv_put (i : Nat) {x : Str} {l : Addr} {key : Key} {px pp' : Pos} (g : Go X W kk) (hr : r[i]? = some (.od l kvs)) (he : EV X B e r d) (hk : EV X B b r (kD key)) (hl : kvs.length < 100000) (h : SV X B W rest (r.set i (.od l (putD kvs key d))) P) (hN : X.N[i]? = some x := by rfl) (hv : Vis X.env.scope x := by first | exact Or.inl rfl | exact Or.inr (Or.inl rfl) | exact Or.inr (Or.inr rfl)) (hd : (x == ("__debug__" : Str)) = false := by decide)
    (hcd : (x == ("__classdict__" : Str)) = false := by decide) (hs : swapsWith e (some (.Subscript (.Name x px) b pp')) pos.line X.env = pure false := by rfl) : SV X B W (.Assign [.Subscript (.Name x px) b pp'] e pos :: rest) r P := fun H σ E S kt => by
  obtain ⟨t, pt, kp⟩ := he
  obtain ⟨t', pt', kp'⟩ := hk
  refine ⟨_, pss_cons (ps_dput (hu_of g.hr) (pe_var hN hv hd hcd) pt' pt hs) wS_ok, kp H σ S _ fun v H1 s1 y => ?_⟩
  obtain ⟨e1, us, y1, z⟩ := (S.mono s1).sl i _ hr
  refine ⟨_, e1, kp' H1 σ (S.mono s1) _ fun w H2 s2 u => ?_⟩
  rw [u.key]
  have y2 : H2 l = some (.dK us) := s2.k y1
  refine ⟨l, _, rfl, DPut.k y2 (Nat.lt_of_lt_of_le (by rw [z.len]; exact hl) (by decide : 100000 ≤ sizeLine)), ?_⟩
  exact h _ _ E ((S.mono (s1.trans s2)).turn hr rfl rfl ⟨e1, _, upd_same, (z.mono (hide_mono s2)).put (y.mono (hide_mono s2))⟩) kt
/-- list(d.items()) -/
def itemsD (kvs : List (Key × D)) : List D := kvs.map fun x => .tuple [kD x.1, x.2]
theorem rp_key {K : PySem.W.Frag} {H : Hp} (k : Key) : Rp K H (kV k) (kD k) := by
  cases k with
  | inl i => exact .int i
  | inr x => exact .str x
theorem items_go {K : PySem.W.Frag} {H1 H' G G' : Hp} (k1 : ∀ b o, H1 b = some o → H' b = some o) (_u : True → True) (fr : ∀ b, H1 b = none → ∀ ob, H' b = some ob → G' b = some ob) (gm : Same G G') :
    ∀ {ts : List Addr} {us : List (Key × V)} {kvs : List (Key × D)}, RpK K G us kvs → (∀ t ∈ ts, H1 t = none) → Paired (fun (t : Addr) (q : Key × V) => H' t = some (.tup [kV q.1, q.2])) ts us → RpA K G' (ts.map V.ref) (itemsD kvs)
  | _, _, _, .nil, _, .nil => .nil
  | _, _, _, .cons h a, hn, .cons p1 p2 => .cons (.tup (SqT.of (fr _ (hn _ List.mem_cons_self) _ p1)) (.cons (rp_key _) (.cons (h.mono gm) .nil))) (items_go k1 _u fr gm a (fun t ht => hn t (List.mem_cons_of_mem _ ht)) p2)
theorem evItems {pl apos cpos : Pos} (g : Go X W kk) (ho : EK X B o r kvs) (hm : X.mg "list" = none) (hg : Gl X "list" := by rfl) (hbase : attributeBase o "items" X.env (eval o X.env) = eval o X.env := by rfl) (hline : (apos.endLine == cpos.line) = true := by rfl)
    (hs : starEach [.Call (.Attribute o "items" apos) [] [] cpos] X.env = (false, eval (.Call (.Attribute o "items" apos) [] [] cpos) X.env) :: starEach [] X.env := by rfl) : EV X B (.Call (.Name "list" pl) [.Call (.Attribute o "items" apos) [] [] cpos] [] pos) r (.list (itemsD kvs)) := by
  obtain ⟨t, pt, kp⟩ := ho
  refine ⟨_, LiI.pe_listItems g.calm pt hg hm (by decide +kernel) hbase hline hs, fun H σ S Q q => kp H σ S _ fun a us H1 s1 y z => ⟨a, us, rfl, y, fun H' l ts k1 k2 k3 k4 k5 k6 => ?_⟩⟩
  have dom := (S.mono s1).dom
  have fr : ∀ b, H1 b = none → ∀ ob, H' b = some ob → hid B r H' b = some ob := fun b hb ob eb => by
    show hide H' (own r ++ B.ps) b = some ob
    rw [hide_out fun w => dom b w hb]; exact eb
  refine q _ H' (s1.trans (.of k1)) (.lst (SqL.of (fr l k2 _ k5)) ?_)
  exact items_go k1 (fun h => h) fr (hide_mono (.of k1)) z k3 k6
/-! ### slices -/
def EO (X : Cx) (B : Bx) (e : Option Expr) (r : List Sl) (o : Option Int) : Prop :=
  ∃ t, PO X e t ∧ ∀ H σ, SOk X.K B r H σ → ∀ Q : Option Int → Hp → Prop, (∀ H', Same H H' → Q o H') → t σ H Q
theorem eoN : EO X B none r none := ⟨_, po_none, fun H σ _ Q q => q H (Same.refl H)⟩
theorem eoS {i : Int} (h : EV X B e r (.int i)) : EO X B (some e) r (some i) := by
  obtain ⟨t, p, k⟩ := h
  exact ⟨_, po_some p, fun H σ S Q q => k H σ S _ fun v H1 s1 y => by cases y; exact ⟨i, rfl, q H1 s1⟩⟩
theorem evSlT {lo hi : Option Expr} {l u : Option Int} {p2 : Pos} (h : ES X B e r true ds) (hl : EO X B lo r l) (hu : EO X B hi r u) (hn : ¬ (HT.sIx ds.length 0 l = 0 ∧ HT.sIx ds.length ds.length u = ds.length)) : EV X B (.Subscript e (.Slice lo hi none p2) pos) r (.tuple (cutD ds l u)) := by
  obtain ⟨t, p, k⟩ := h
  obtain ⟨tl, pl, kl⟩ := hl
  obtain ⟨tu, pu, ku⟩ := hu
  refine ⟨_, pe_slice sl_tup p pl pu, fun H σ S Q q => k H σ S _ fun a vs H1 s1 y z => kl H1 σ (S.mono s1) _ fun H2 s2 => ku H2 σ (S.mono (s1.trans s2)) _ fun H3 s3 => ?_⟩
  have s23 := s2.trans s3
  refine ⟨a, vs, rfl, seqT s23 y, by rw [z.len]; exact hn, fun l' hl' => q _ _ ((s1.trans s23).trans (same_new hl')) (.tup (SqT.of (hide_new hl' (S.mono (s1.trans s23)).dom)) ?_)⟩
  exact (cut_same (z.mono (hide_mono s23)) _ _).mono (hide_mono (same_new hl'))
theorem evSlL {lo hi : Option Expr} {l u : Option Int} {p2 : Pos} (h : ES X B e r false ds) (hl : EO X B lo r l) (hu : EO X B hi r u) : EV X B (.Subscript e (.Slice lo hi none p2) pos) r (.list (cutD ds l u)) := by
  obtain ⟨t, p, k⟩ := h
  obtain ⟨tl, pl, kl⟩ := hl
  obtain ⟨tu, pu, ku⟩ := hu
  refine ⟨_, pe_slice sl_list p pl pu, fun H σ S Q q => k H σ S _ fun a vs H1 s1 y z => kl H1 σ (S.mono s1) _ fun H2 s2 => ku H2 σ (S.mono (s1.trans s2)) _ fun H3 s3 => ?_⟩
  have s23 := s2.trans s3
  refine ⟨a, vs, rfl, s23.seq y, fun l' hl' => q _ _ ((s1.trans s23).trans (same_new hl')) (.lst (SqL.of (hide_new hl' (S.mono (s1.trans s23)).dom)) ?_)⟩
  exact (cut_same (z.mono (hide_mono s23)) _ _).mono (hide_mono (same_new hl'))
/-- xs[::-1] -/
theorem evRev {n : Nat} {p1 p2 p3 : Pos} (h : ES X B e r false ds) : EV X B (.Subscript e (.Slice none none (some (.UnaryOp .USub (.Constant (.int 1) n p1) p2)) p3) pos) r (.list ds.reverse) := by
  obtain ⟨t, p, k⟩ := h
  exact ⟨_, pe_revL p, fun H σ S Q q => k H σ S _ fun a vs H1 s1 y z => ⟨a, vs, rfl, y, fun l' hl' => q _ _ (s1.trans (same_new hl')) (.lst (SqL.of (hide_new hl' (S.mono s1).dom)) ((z.rev).mono (hide_mono (same_new hl'))))⟩⟩
/-- -e -/
theorem evNeg {i : Int} (h : EV X B e r (.int i)) : EV X B (.UnaryOp .USub e pos) r (.int (-i)) := by
  obtain ⟨t, p, k⟩ := h
  exact ⟨_, pe_un un_neg p, fun H σ S Q q => k H σ S _ fun v H1 s1 y => by cases y; exact ⟨i, rfl, q _ H1 s1 (.int _)⟩⟩
end

/-! ### == at any depth -/
mutual
/-- data without dicts, at most n deep -/
inductive Shp : Nat → D → Prop
  | non {n : Nat} : Shp n .none
  | bl {n : Nat} {b : Bool} : Shp n (.bool b)
  | int {n : Nat} {i : Int} : Shp n (.int i)
  | str {n : Nat} {x : Str} : (PyData.str x).canLay0 = true → Shp n (.str x)
  | lst {n : Nat} {ds : List D} : ShpA n ds → Shp (n + 1) (.list ds)
  | tup {n : Nat} {ds : List D} : ShpA n ds → Shp (n + 1) (.tuple ds)
inductive ShpA : Nat → List D → Prop
  | nil {n : Nat} : ShpA n []
  | cons {n : Nat} {d : D} {ds : List D} : Shp n d → ShpA n ds → ShpA n (d :: ds)
end
mutual
theorem Shp.ok : ∀ {n : Nat} {d : D}, Shp n d → d.canLay0 = true ∧ d.depth ≤ n
  | _, _, .non => ⟨rfl, Nat.zero_le _⟩
  | _, _, .bl => ⟨rfl, Nat.zero_le _⟩
  | _, _, .int => ⟨rfl, Nat.zero_le _⟩
  | _, _, .str h => ⟨h, Nat.zero_le _⟩
  | _, _, .lst h => ⟨(ShpA.ok h).1, Nat.succ_le_succ (ShpA.ok h).2⟩
  | _, _, .tup h => ⟨(ShpA.ok h).1, Nat.succ_le_succ (ShpA.ok h).2⟩
theorem ShpA.ok : ∀ {n : Nat} {ds : List D}, ShpA n ds → PyData.canLayAll0 ds = true ∧ PyData.depthAll ds ≤ n
  | _, _, .nil => ⟨rfl, Nat.zero_le _⟩
  | _, _, .cons h a => ⟨Bool.and_eq_true_iff.mpr ⟨(Shp.ok h).1, (ShpA.ok a).1⟩, Nat.max_le.mpr ⟨(Shp.ok h).2, (ShpA.ok a).2⟩⟩
end
theorem ShpA.map {α : Type} {n : Nat} {f : α → D} (h : ∀ x, Shp n (f x)) : ∀ (l : List α), ShpA n (l.map f)
  | [] => .nil
  | _ :: l => .cons (h _) (ShpA.map h l)
theorem ShpA.mapM {α : Type} {n : Nat} {f : α → D} : ∀ (l : List α), (∀ x ∈ l, Shp n (f x)) → ShpA n (l.map f)
  | [], _ => .nil
  | _ :: l, h => .cons (h _ List.mem_cons_self) (ShpA.mapM l fun x hx => h x (List.mem_cons_of_mem _ hx))
theorem ShpA.app {n : Nat} : ∀ {a b : List D}, ShpA n a → ShpA n b → ShpA n (a ++ b)
  | _, _, .nil, h => h
  | _, _, .cons h a, b => .cons h (ShpA.app a b)
theorem Shp.shaped {d : D} (h : Shp 64 d) : SeqAt.shaped d = true := Bool.and_eq_true_iff.mpr ⟨h.ok.1, decide_eq_true h.ok.2⟩
mutual
theorem Rp.dp {K : PySem.W.Frag} {H : Hp} : ∀ {n : Nat} {v : V} {d : D}, Shp n d → Rp K H v d → Dp K H v d
  | _, _, _, .non, h => by cases h; exact .non
  | _, _, _, .bl, h => by cases h; exact .bl _
  | _, _, _, .int, h => by cases h; exact .int _
  | _, _, _, .str _, h => by cases h; exact .str _
  | _, _, _, .lst s, h => by
    cases h with
    | lst h a => exact .lst h (RpA.dp s a)
  | _, _, _, .tup s, h => by
    cases h with
    | tup h a => exact .tup h (RpA.dp s a)
theorem RpA.dp {K : PySem.W.Frag} {H : Hp} : ∀ {n : Nat} {vs : List V} {ds : List D}, ShpA n ds → RpA K H vs ds → DpAll K H vs ds
  | _, _, _, .nil, h => by cases h; exact .nil
  | _, _, _, .cons s t, h => by
    cases h with
    | cons h a => exact .cons (Rp.dp s h) (RpA.dp t a)
end
section
variable {X : Cx} {B : Bx} {W : WX} {P : Po} {r q : List Sl} {e a b o tg : Expr} {es : List Expr} {rest body orelse : List Stmt} {d dx dy : D} {ds : List D} {pos pos' p : Pos} {k kk : Nat}
theorem Go.un (g : Go X W kk) : X.A.units + 64 < cLine := g.hr.units
theorem cv_eqD (hu : X.A.units + 64 < cLine) (h1 : Shp 64 dx) (h2 : Shp 64 dy) : CV X .Eq dx dy (PyData.eqv dx dy) :=
  ⟨_, op_eqD hu, fun H x y rx ry Q q => ⟨dx, dy, rx.dp h1, ry.dp h2, h1.shaped, h2.shaped, q⟩⟩
theorem cv_neD (hu : X.A.units + 64 < cLine) (h1 : Shp 64 dx) (h2 : Shp 64 dy) : CV X .NotEq dx dy (!PyData.eqv dx dy) :=
  ⟨_, op_neD hu, fun H x y rx ry Q q => ⟨dx, dy, rx.dp h1, ry.dp h2, h1.shaped, h2.shaped, q⟩⟩
theorem eqv_same {n : Nat} (h : Shp n d) : PyData.eqv d d = true := SeqAt.eqv_refl d h.ok.1
/-! ### loops over a list or a tuple; targets of two names -/
def sqD : Bool → List D → D
  | true, ds => .tuple ds
  | false, ds => .list ds
theorem sv_forQ {tp : Bool} (I : Nat → List Sl → Prop) (tq : D → List Sl → List Sl) (g : Go X W k) (he : EV X B e r (sqD tp ds)) (ht : ∀ B (i : Nat) d r', ds[i]? = some d → GT X B tg r' d (tq d r')) (h0 : I 0 r)
    (hs : ∀ H1 (i : Nat) d r', ds[i]? = some d → I i r' → SV X ⟨H1, B.ps, B.ts, B.gr⟩ W body (tq d r') (P.loop (LN I (i + 1)) fun q => SV X B W rest q P)) (hd : ∀ r', I ds.length r' → SV X B W rest r' P)
    (hfs : ∀ x, foldedSetIterable e X.env x = pure x := by intro _; rfl) : SV X B W (.For tg e body [] pos :: rest) r P := by
  cases tp with
  | true => exact sv_forT I tq g he ht h0 hs hd hfs
  | false => exact sv_forL I tq g he ht h0 hs hd hfs
/-- what a pair does to two slots -/
def tq2 (i j : Nat) : D → List Sl → List Sl
  | .tuple [a, b], r => (r.set i (.im a)).set j (.im b)
  | _, r => r
theorem gt_pair (i j : Nat) {x y : Str} {px py : Pos} {n : Nat} (g : Go X W kk) (hd : ∃ a b, d = .tuple [a, b]) (hi : X.N[i]? = some x := by rfl) (hx : Loc X.env.scope x := by first | exact Or.inl rfl | exact Or.inr rfl) (hj : X.N[j]? = some y := by rfl) (hy : Loc X.env.scope y := by first | exact Or.inl rfl | exact Or.inr rfl)
    (hf : X.fn x = true ∨ X.env.scope.names.lookup x = some .local := by first | exact .inl rfl | exact .inr rfl) (hf2 : X.fn y = true ∨ X.env.scope.names.lookup y = some .local := by first | exact .inl rfl | exact .inr rfl)
    (hs : (assignEach [.Name x px, .Name y py] X.env).map (·.2) = assign (.Name x px) X.env :: (assignEach [.Name y py] X.env).map (·.2) := by rfl) (hs2 : (assignEach [.Name y py] X.env).map (·.2) = assign (.Name y py) X.env :: (assignEach [] X.env).map (·.2) := by rfl)
    (hn : (assignEach [.Name x px, .Name y py] X.env).length = 2 := by rfl) (hst : (assignEach [.Name x px, .Name y py] X.env).findIdx? (·.1) = none := by rfl) : GT X B (.Tuple [.Name x px, .Name y py] n pos) r d (tq2 i j d r) := by
  obtain ⟨a, b, rfl⟩ := hd
  exact gt_tup g.calm (gts_cons i g.nd (gts_cons j g.nd gts_nil hj hy hf2 hs2) hi hx hf hs) hn hst
end
end Tp

namespace Tp
open PySem L2

/-! ### own exceptions: raised, caught -/
abbrev vesB : List Value := [.type "ValueError", .type "Exception", .type "BaseException", .type "object"]
/-- what the top has written of the class called x, at C -/
structure XcT (K : PySem.W.Frag) (mg : Str → Option Value) (x : Str) (C : Addr) : Prop where
  gC : mg x = some (.ref C)
  kC : PySem.W.keepIn K (.ref C) = true
  ex : PySem.W.excIn K C vesB "ValueError.__new__" = true
  tC : PySem.W.typeIn K (.ref C) = some (.type "type")
  cl : ExcC K C
theorem XcT.raises {X : Cx} {x : Str} {C : Addr} (T : XcT X.K X.mg x C) : Raises X (.ref C) := raises_own T.cl.hs T.tC
theorem pmk_own0 {X : Cx} {C : Addr} {bmB : List Value} {B newId initId : String} {x : Str} {p pos : Pos} (F : ExcBaseFacts B newId initId bmB) (q : PySem.W.excIn X.K C bmB newId = true) (gC : X.mg x = some (.ref C)) (kC : PySem.W.keepIn X.K (.ref C) = true) (r : Raises X (.ref C)) (hg : Gl X x)
    (hdb : (x == ("__debug__" : Str)) = false := by decide) : PMk X (.Call (.Name x p) [] [] pos) (fun _ H Q => Q (.ref C) none H) := by
  intro pins s σ H Q I h
  refine wpAny_Call_Name_kw (ld_glob I hg gC ?_ hdb)
  refine PySem.W.callWith_K0 I.kIn kC ?_
  show wpAny _ _ (call (.ref C) []) _ _ _
  obtain ⟨bm, N, nm, qn, bs, hdct, sn, sub, ab, col, dd, k0, k1, k2, k3, k5, mN, hC, hN, hni, T⟩ := exc_obj I.kIn q
  refine wpAny_call_exc_subT F T hC hN hni (fun h' e hm => ?_) (by show 0 ≤ sizeLine; exact Nat.zero_le _)
  exact mk_of I hm r h (I.hok.gone hm.new)

section
variable {X : Cx} {B : Bx} {W : WX} {P : Po} {r q : List Sl} {e a b c tg : Expr} {es : List Expr} {rest body orelse : List Stmt} {st : Stmt} {d : D} {ds : List D} {pos pos' p : Pos} {k kk : Nat} {x : Str}
/-- raise C() -/
theorem sv_raise {C : Addr} (g : Go X W k) (T : XcT X.K X.mg x C) (h : P.ex C r) (hg : Gl X x := by rfl) (hdb : (x == ("__debug__" : Str)) = false := by decide) : SV X B W (.Raise (some (.Call (.Name x p) [] [] pos)) none pos' :: rest) r P :=
  fun H σ E S kt => ⟨_, pss_cons (ps_raise g.calm g.tk (pmk_own0 PySem.F.excBase_ValueError T.ex T.gC T.kC T.raises hg hdb)) wS_ok, kt.ex C r σ H S h⟩
/-- an expression that raises, for sure -/
def EX (X : Cx) (B : Bx) (W : WX) (e : Expr) (r : List Sl) (Ex : Addr → Prop) : Prop :=
  ∃ te, PE X e te ∧ ∀ H σ, SOk X.K B r H σ → ∀ Q : VK, (∀ C H', Same H H' → Ex C → W (.ref C) none σ H') → te σ H Q
theorem EC.exc {Ex : Addr → Prop} (h : EC X B W e r (fun _ => False) Ex) : EX X B W e r Ex := by
  obtain ⟨te, p, k⟩ := h
  exact ⟨te, p, fun H σ S Q q => k H σ S Q (fun _ _ _ _ _ _ _ z => z.elim) q⟩
theorem exAdd {Ex : Addr → Prop} (h : EX X B W a r Ex) : EX X B W (.BinOp a .Add b pos) r Ex := by
  obtain ⟨te, p, k⟩ := h
  exact ⟨_, pe_op op_add p (wE_ok (e := b)), fun H σ S Q q => k H σ S _ q⟩
theorem sv_retX {Ex : Addr → Prop} (he : EX X B W e r Ex) (h : ∀ C, Ex C → P.ex C r) : SV X B W (.Return (some e) pos :: rest) r P := fun H σ E S kt => by
  obtain ⟨te, p, q⟩ := he
  exact ⟨_, pss_cons (ps_ret p) wS_ok, q H σ S _ fun C H1 s1 y => kt.ex C r σ H1 (S.mono s1) (h C y)⟩
theorem sv_dropX {Ex : Addr → Prop} (he : EX X B W e r Ex) (h : ∀ C, Ex C → P.ex C r) (hs : swapsWith e none pos.line X.env = pure false := by rfl) : SV X B W (.Expr e pos :: rest) r P := fun H σ E S kt => by
  obtain ⟨te, p, q⟩ := he
  exact ⟨_, pss_cons (ps_expr p hs) wS_ok, q H σ S _ fun C H1 s1 y => kt.ex C r σ H1 (S.mono s1) (h C y)⟩
end

/-! ### try: several clauses, with names or without -/
abbrev Hd := Value × Option Nat × (Addr → Value → Option Addr → TS)
def wMix (K : PySem.W.Frag) (Wout : WX) (D : Ends) : List Hd → WX
  | [] => Wout
  | (c, none, ts) :: r => fun cls d σ H => ∃ b, PySem.W.exmOne K cls c = some b ∧ (b = true → ∀ a, H a = none → ts a cls d D σ H) ∧ (b = false → wMix K Wout D r cls d σ H)
  | (c, some i, ts) :: r => fun cls d σ H => ∃ b, PySem.W.exmOne K cls c = some b ∧ (b = true → ∀ a, H a = none → ts a cls d { nx := fun σ' H' => D.nx (σ'.set i none) H', rt := D.rt, bk := fun σ' H' => D.bk (σ'.set i none) H', ct := fun σ' H' => D.ct (σ'.set i none) H' } (σ.set i (some (.ref a))) H) ∧ (b = false → wMix K Wout D r cls d σ H)
inductive HdsM (X : Cx) : List ExceptHandler → List Hd → Prop
  | nil : HdsM X [] []
  | cons {x : Str} {c : Value} {ts : Addr → Value → Option Addr → TS} {b₀ : Stmt} {suite : List Stmt} {np pos' : Pos} {hds : List ExceptHandler} {l : List Hd} (hc : Names X x c)
      (hsu : ∀ (a : Addr) (oe : Obj) (cls : Value) (d : Option Addr) (pn : List (Addr × Obj)), Zc cls d oe → (∃ vs, oe.data = .fields vs) → PSs (X.suite a ((a, oe) :: pn)) (b₀ :: suite) (ts a cls d)) (r : HdsM X hds l) :
      HdsM X (.ExceptHandler (some (.Name x np)) none (b₀ :: suite) pos' :: hds) ((c, none, ts) :: l)
  | named {i : Nat} {x n : Str} {c : Value} {ts : Addr → Value → Option Addr → TS} {b₀ : Stmt} {suite : List Stmt} {np pos' : Pos} {hds : List ExceptHandler} {l : List Hd} (hi : X.N[i]? = some n) (hln : X.env.kindOf n = some .local) (hc : Names X x c)
      (hsu : ∀ (a : Addr) (oe : Obj) (cls : Value) (d : Option Addr) (pn : List (Addr × Obj)), Zc cls d oe → (∃ vs, oe.data = .fields vs) → PSs (X.suite a ((a, oe) :: pn)) (b₀ :: suite) (ts a cls d)) (r : HdsM X hds l) :
      HdsM X (.ExceptHandler (some (.Name x np)) (some n) (b₀ :: suite) pos' :: hds) ((c, some i, ts) :: l)
section
variable {X : Cx} {body : List Stmt} {h₀ : ExceptHandler} {hds : List ExceptHandler} {l : List Hd} {pos : Pos} {tb : WX → TS} {Wout : WX}
theorem ps_try_mix (hs : X.stack = X.env :: X.outer) (hf : X.env.frame = some X.env.locals) (hN : X.N.Nodup) (tk : Takes X Wout)
    (hb : ∀ (W : WX) (pn : List (Addr × Obj)) (xe : Value → Shared → Prop), Takes (X.tr pn xe) W → PassesOwn (model X.prog X.w) X.A X.env xe → PSs (X.tr pn xe) body (tb W))
    (hh : HdsM X (h₀ :: hds) l) : PS X (.Try body (h₀ :: hds) [] [] pos) (fun D σ H => tb (wMix X.K Wout D l) D σ H) := by
  refine ⟨fun pins s σ H D I h => ?_⟩
  have ok := I.ok
  have hfr : X.A.frames = some (X.env :: X.outer) := by rw [ok.frames, hs]
  refine wpAny_Try_except ?_
  refine wpAny_mono ((hb (wMix X.K Wout D l) (X.pn ++ pins) (fun e s₁ => wpAny (model X.prog X.w) X.A (noteFrame e X.env) (fun _ s₂ => wpAny (model X.prog X.w) X.A (setFlight e none) (fun _ s₃ =>
    wpAny (model X.prog X.w) X.A (handleBy e X.env (h₀ :: hds)) (SP X pins D) X.xe s₃) X.xe s₂) X.xe s₁) (fun u s' xx => ?_) PassesOwn.looking).run [] s σ H D (I.toTry _) h) (fun f s1 hsp => ?_) (fun e s1 he => he)
  · -- the catch
    obtain ⟨a, B, sI, pins', σ', H', cls, d, rfl, J', nb, up, sky, na, os, ag, w⟩ := xx
    have J : Inv X pins σ' H' sI := J'.ofTry ok
    have sky' : Sky B (X.env :: X.outer) a (Zc cls d) X.env.locals s'.heap := by rw [← hs]; exact sky
    show wpAny (model X.prog X.w) X.A (noteFrame (.ref a) X.env) _ _ _
    refine Sky.land Zc.steady hfr hf sky' fun h3 fl3 up3 => ?_
    have J3 : Inv X pins σ' H' { s' with heap := h3 } := J.landed nb fl3.1 (up.trans up3) os ag
    obtain ⟨oe3, vs3, he3, hz3, hd3⟩ := fl3.there
    have notFr : ∀ {h : Heap} {o : Obj} {vs : Array Value}, h.FunFrames B (X.env :: X.outer) → h.get? a = some o → o.data = .fields vs → a ∉ frs (X.env :: X.outer) := fun {h o vs} ff e dd hm => by
      obtain ⟨_, o', e', hnf⟩ := ff.mem hm
      rw [e] at e'; cases e'
      exact hnf _ dd
    have nfr := notFr fl3.2.2.1 he3 hd3
    have nL : a ≠ X.env.locals := fun z => nfr (List.mem_filterMap.mpr ⟨X.env, List.mem_cons_self, by rw [hf, z]⟩)
    have nF : a ∉ X.fs := fun hm => by
      obtain ⟨e, he, q⟩ := List.mem_filterMap.mp hm
      exact nfr (List.mem_filterMap.mpr ⟨e, List.mem_cons_of_mem _ he, q⟩)
    have S3 := J3.suite he3 hd3 na nL nF
    have go : ∀ {hds' : List ExceptHandler} {l' : List Hd}, HdsM X hds' l' → wMix X.K Wout D l' cls d σ' H' →
        wpAny (model X.prog X.w) X.A (handleBy (.ref a) X.env hds') (SP X pins D) X.xe { s' with heap := h3 } := by
      intro hds' l' hk
      induction hk with
      | nil =>
        intro w
        refine wpAny_handleBy_nil ?_
        obtain ⟨k1, k2, k3, oe, vs, T, oT, ts', he, hz, hd, h1, hr⟩ := id fl3
        unfold PySem.passOn
        refine wpAny_bind (wpAny_field he hd h1 ?_)
        rw [if_neg (show ¬ ((Value.ref T == Value.none) = true) from by simp)]
        have fin : wpAny (model X.prog X.w) X.A (setFlight (.ref a) X.env.frame) (fun _ s4 => wpAny (model X.prog X.w) X.A (throw (.ref a) : Sem Flow) (SP X pins D) X.xe s4) X.xe { s' with heap := h3 } := by
          rw [hf]
          refine HandSPX.setFlight_upZ fl3 fun h4 hh4 up4 => wpAny_throw (tk _ _ ?_)
          exact ⟨a, B, sI, pins, σ', H', cls, d, rfl, J, nb, (up.trans up3).trans up4, .inr (.inr (by rw [hs]; exact hh4)), na, os, ag, w⟩
        first
          | exact wpAny_bind (wpAny_pure (wpAny_bind fin))
          | exact wpAny_bind fin
      | @cons x c ts b₀ suite np pos' hds2 l2 hc hsu r ih =>
        intro w
        obtain ⟨b, hb1, hyes, hno⟩ := w
        refine wpAny_handleBy_cons (codeAny_handlers_test ?_) (by intro q; cases q)
        have LT : PySem.W.Looks (model X.prog X.w) h3 (typeOf (.ref a)) cls := fun A Q E s k q => wpAny_typeOf_ref (k _ _ he3) (by rw [hz3.1]; exact q)
        have LM := PySem.W.exm_one (M := model X.prog X.w) (J3.kIn) LT hb1
        have test : ∀ {Q : Value → Shared → Prop} {E : Value → Shared → Prop}, Q c { s' with heap := h3 } → wpAny (model X.prog X.w) (X.A.mark (some (.ref a))) (eval (.Name x np) X.env) Q E { s' with heap := h3 } := fun {Q E} q => by
          obtain ⟨hg, hdbg, hm | ⟨hm, hv, hnn⟩⟩ := hc
          · exact ld_glob (X := X.suite a ((a, oe3) :: (X.pn ++ pins))) S3 hg hm q hdbg
          · exact ld_blt (X := X.suite a ((a, oe3) :: (X.pn ++ pins))) S3 hg hm hv q hnn hdbg
        refine test (LM.here ?_)
        cases b with
        | true =>
          refine codeAny_handlers_suite ?_
          refine HandSPX.lands_againZ fl3 fun h4 fl4 up4 => ?_
          have J4 : Inv X pins σ' H' { s' with heap := h4 } := J.landed nb fl4.1 ((up.trans up3).trans up4) os ag
          obtain ⟨oe4, vs4, he4, hz4, hd4⟩ := fl4.there
          have S4 := J4.suite he4 hd4 na nL nF
          refine wpAny_mono ((hsu a oe4 cls d (X.pn ++ pins) hz4 ⟨_, hd4⟩).run [] _ _ H' _ S4 (hyes rfl a na)) (fun f s6 hsp => ?_) (fun _ _ z => False.elim z)
          cases f with
          | next =>
            obtain ⟨σ6, H6, S6, q6⟩ := hsp
            exact ⟨_, _, S6.unsuite ok, q6⟩
          | brk =>
            obtain ⟨σ6, H6, S6, q6⟩ := hsp
            exact ⟨_, _, S6.unsuite ok, q6⟩
          | cont =>
            obtain ⟨σ6, H6, S6, q6⟩ := hsp
            exact ⟨_, _, S6.unsuite ok, q6⟩
          | ret u =>
            obtain ⟨v6, σ6, H6, S6, r6, q6⟩ := hsp
            exact ⟨_, _, _, S6.unsuite ok, r6, q6⟩
        | false =>
          show wpAny _ X.A (handleBy (.ref a) X.env hds2) _ _ _
          exact ih (hno rfl)
      | @named i x n c ts b₀ suite np pos' hds2 l2 hi hln hc hsu r ih =>
        intro w
        have hloc : Loc X.env.scope n := .inl hln
        obtain ⟨b, hb1, hyes, hno⟩ := w
        refine wpAny_handleBy_cons (codeAny_handlers_test ?_) (by intro q; cases q)
        have LT : PySem.W.Looks (model X.prog X.w) h3 (typeOf (.ref a)) cls := fun A Q E s k q => wpAny_typeOf_ref (k _ _ he3) (by rw [hz3.1]; exact q)
        have LM := PySem.W.exm_one (M := model X.prog X.w) (J3.kIn) LT hb1
        have test : ∀ {Q : Value → Shared → Prop} {E : Value → Shared → Prop}, Q c { s' with heap := h3 } → wpAny (model X.prog X.w) (X.A.mark (some (.ref a))) (eval (.Name x np) X.env) Q E { s' with heap := h3 } := fun {Q E} q => by
          obtain ⟨hg, hdbg, hm | ⟨hm, hv, hnn⟩⟩ := hc
          · exact ld_glob (X := X.suite a ((a, oe3) :: (X.pn ++ pins))) S3 hg hm q hdbg
          · exact ld_blt (X := X.suite a ((a, oe3) :: (X.pn ++ pins))) S3 hg hm hv q hnn hdbg
        refine test (LM.here ?_)
        cases b with
        | true =>
          refine codeAny_handlers_suite_as ?_
          refine HandSPX.lands_againZ fl3 fun h4 fl4 up4 => ?_
          have J4 : Inv X pins σ' H' { s' with heap := h4 } := J.landed nb fl4.1 ((up.trans up3).trans up4) os ag
          obtain ⟨oe4, vs4, he4, hz4, hd4⟩ := fl4.there
          have S4 := J4.suite he4 hd4 na nL nF
          refine store_ok (X := X.suite a ((a, oe4) :: (X.pn ++ pins))) (v := .ref a) S4 hN hi hloc rfl (fun s5 S5 => ?_) (.inr hln)
          refine wpAny_mono ((hsu a oe4 cls d (X.pn ++ pins) hz4 ⟨_, hd4⟩).run [] s5 _ H' _ S5 (hyes rfl a na)) (fun f s6 hsp => ?_) (fun _ _ z => False.elim z)
          have end_ : ∀ {σ6 : St} {H6 : Hp} {Q : Shared → Prop}, Inv (X.suite a ((a, oe4) :: (X.pn ++ pins))) [] σ6 H6 s6 → (∀ s7, Inv X pins (σ6.set i none) H6 s7 → Q s7) →
              wpAny (model X.prog X.w) X.A (do bindName X.env n .none; unbindBehindTheSuite X.env n pos') (fun _ s7 => Q s7) X.xe s6 := fun {σ6 H6 Q} S6 hq => gone_ok (S6.unsuite ok) hN hi hln hq
          cases f with
          | next =>
            obtain ⟨σ6, H6, S6, q6⟩ := hsp
            exact end_ S6 fun s7 J7 => ⟨_, _, J7, q6⟩
          | brk =>
            obtain ⟨σ6, H6, S6, q6⟩ := hsp
            exact end_ S6 fun s7 J7 => ⟨_, _, J7, q6⟩
          | cont =>
            obtain ⟨σ6, H6, S6, q6⟩ := hsp
            exact end_ S6 fun s7 J7 => ⟨_, _, J7, q6⟩
          | ret u =>
            obtain ⟨v6, σ6, H6, S6, r6, q6⟩ := hsp
            exact end_ S6 fun s7 J7 => ⟨_, _, _, J7, r6, q6⟩
        | false =>
          show wpAny _ X.A (handleBy (.ref a) X.env hds2) _ _ _
          exact ih (hno rfl)
    exact go hh w
  · cases f with
    | next =>
      obtain ⟨σ', H', J', q⟩ := hsp
      exact wpAny_execs_nil ⟨σ', H', J'.ofTry ok, q⟩
    | brk =>
      obtain ⟨σ', H', J', q⟩ := hsp
      exact ⟨σ', H', J'.ofTry ok, q⟩
    | cont =>
      obtain ⟨σ', H', J', q⟩ := hsp
      exact ⟨σ', H', J'.ofTry ok, q⟩
    | ret u =>
      obtain ⟨v, σ', H', J', r, q⟩ := hsp
      exact ⟨v, σ', H', J'.ofTry ok, r, q⟩
end

/-! ### the clauses, over data -/
/-- a suite's context -/
def SuOk (C : Addr) (oe : Obj) : Prop := Zc (.ref C) none oe ∧ ∃ vs, oe.data = .fields vs
abbrev W0 : WX := fun _ _ _ _ => False
/-- what a suite is to do, the exception's slot (if named) i -/
def Su (X : Cx) (B : Bx) (W : WX) (rest : List Stmt) (P : Po) (suite : List Stmt) (oi : Option Nat) (C : Addr) (r : List Sl) : Prop :=
  ∀ a oe pn, SuOk C oe → SV (X.suite a ((a, oe) :: pn)) B W0 suite (match oi with | some i => r.set i (.rf a) | none => r)
    { nx := fun r' => SV X B W rest (match oi with | some i => r'.set i .no | none => r') P, rt := P.rt, bk := fun r' => P.bk (match oi with | some i => r'.set i .no | none => r'), ct := fun r' => P.ct (match oi with | some i => r'.set i .no | none => r') }
abbrev Hs := Value × Option Nat × List Stmt
/-- what becomes of an exception of the class at C -/
def hx (X : Cx) (B : Bx) (W : WX) (rest : List Stmt) (P : Po) : List Hs → Addr → List Sl → Prop
  | [], C, r => P.ex C r
  | (c, oi, su) :: l, C, r => (PySem.W.exmOne X.K (.ref C) c = some true ∧ Su X B W rest P su oi C r) ∨ (PySem.W.exmOne X.K (.ref C) c = some false ∧ hx X B W rest P l C r)
inductive HdsD (X : Cx) : List ExceptHandler → List Hs → Prop
  | nil : HdsD X [] []
  | cons {x : Str} {c : Value} {b₀ : Stmt} {suite : List Stmt} {np pos' : Pos} {hds : List ExceptHandler} {l : List Hs} (hc : Names X x c) (r : HdsD X hds l) :
      HdsD X (.ExceptHandler (some (.Name x np)) none (b₀ :: suite) pos' :: hds) ((c, none, b₀ :: suite) :: l)
  | named {i : Nat} {x n : Str} {c : Value} {b₀ : Stmt} {suite : List Stmt} {np pos' : Pos} {hds : List ExceptHandler} {l : List Hs} (hi : X.N[i]? = some n) (hln : X.env.kindOf n = some .local) (hc : Names X x c) (r : HdsD X hds l) :
      HdsD X (.ExceptHandler (some (.Name x np)) (some n) (b₀ :: suite) pos' :: hds) ((c, some i, b₀ :: suite) :: l)
/-- the widest reading of a suite -/
def wSu (X : Cx) (suite : List Stmt) : Addr → Value → Option Addr → TS := fun a cls d E σ H => ∀ oe pn, Zc cls d oe → (∃ vs, oe.data = .fields vs) → wS (X.suite a ((a, oe) :: pn)) suite E σ H
theorem wSu_ok {X : Cx} {suite : List Stmt} {a : Addr} {oe : Obj} {cls : Value} {d : Option Addr} {pn : List (Addr × Obj)} (h1 : Zc cls d oe) (h2 : ∃ vs, oe.data = .fields vs) : PSs (X.suite a ((a, oe) :: pn)) suite (wSu X suite a cls d) :=
  ⟨fun pins s σ H E I h => (wS_ok (X := X.suite a ((a, oe) :: pn)) (sts := suite)).run pins s σ H E I (h oe pn h1 h2)⟩
def hsT (X : Cx) : List Hs → List Hd
  | [] => []
  | (c, oi, su) :: l => (c, oi, wSu X su) :: hsT X l
theorem HdsD.m {X : Cx} {hds : List ExceptHandler} {l : List Hs} (h : HdsD X hds l) : HdsM X hds (hsT X l) := by
  induction h with
  | nil => exact .nil
  | cons hc r ih => exact .cons hc (fun a oe cls d pn h1 h2 => wSu_ok h1 h2) ih
  | named hi hln hc r ih => exact .named hi hln hc (fun a oe cls d pn h1 h2 => wSu_ok h1 h2) ih
section
variable {X : Cx} {B : Bx} {W : WX} {P : Po} {r q : List Sl} {e a b c tg : Expr} {es : List Expr} {rest body orelse : List Stmt} {st : Stmt} {d : D} {ds : List D} {pos pos' p : Pos} {k kk : Nat} {x : Str} {h₀ : ExceptHandler} {hds : List ExceptHandler} {l : List Hs}
theorem hx_w {E : Ends} (kt : Kt X B W P E) : ∀ {l : List Hs} {C : Addr} {r : List Sl} {σ : St} {H : Hp}, SOk X.K B r H σ → hx X B W rest P l C r → wMix X.K W { E with nx := wS X rest E } (hsT X l) (.ref C) none σ H
  | [], C, r, σ, H, S, h => kt.ex C r σ H S h
  | (c, none, su) :: l, C, r, σ, H, S, h => by
    rcases h with ⟨h1, h2⟩ | ⟨h1, h2⟩
    · refine ⟨true, h1, fun _ a ha oe pn z1 z2 => ?_, fun z => nomatch z⟩
      exact h2 a oe pn ⟨z1, z2⟩ H σ _ S ⟨fun r' σ' H' S' hr => hr H' σ' E S' kt, kt.rt, kt.bk, kt.ct, fun _ _ _ _ _ z => z.elim⟩
    · exact ⟨false, h1, fun z => (nomatch z), fun _ => hx_w kt S h2⟩
  | (c, some i, su) :: l, C, r, σ, H, S, h => by
    rcases h with ⟨h1, h2⟩ | ⟨h1, h2⟩
    · refine ⟨true, h1, fun _ a ha oe pn z1 z2 => ?_, fun z => nomatch z⟩
      exact h2 a oe pn ⟨z1, z2⟩ H (σ.set i (some (.ref a))) _ (S.set (s := .rf a) rfl rfl) ⟨fun r' σ' H' S' hr => hr H' (σ'.set i none) E S'.setNo kt, kt.rt, fun r' σ' H' S' hr => kt.bk _ _ _ S'.setNo hr, fun r' σ' H' S' hr => kt.ct _ _ _ S'.setNo hr, fun _ _ _ _ _ z => z.elim⟩
    · exact ⟨false, h1, fun z => (nomatch z), fun _ => hx_w kt S h2⟩
theorem sv_try (g : Go X W k) (hb : ∀ pn xe W', Go (X.tr pn xe) W' k → SV (X.tr pn xe) B W' body r { nx := fun r' => SV X B W rest r' P, rt := P.rt, bk := P.bk, ct := P.ct, ex := hx X B W rest P l }) (hh : HdsD X (h₀ :: hds) l) (stk : X.stack = X.env :: X.outer := by rfl) (frm : X.env.frame = some X.env.locals := by rfl) : SV X B W (.Try body (h₀ :: hds) [] [] pos :: rest) r P := fun H σ E S kt => by
  refine ⟨_, pss_cons (ps_try_mix (tb := fun W' E σ H => ∀ pn xe, Takes (X.tr pn xe) W' → PassesOwn (model X.prog X.w) X.A X.env xe → wS (X.tr pn xe) body E σ H) stk frm g.nd g.tk (fun W' pn xe t p => ⟨fun pins s σ H E I h => wS_ok.run pins s σ H E I (h pn xe t p)⟩) hh.m) wS_ok, fun pn xe t p => ?_⟩
  refine hb pn xe _ ⟨g.hr, g.calm, p, t, g.nd⟩ H σ _ S ⟨fun r' σ' H' S' hr => hr H' σ' E S' kt, kt.rt, kt.bk, kt.ct, fun C r' σ' H' S' hr => hx_w kt S' hr⟩
/-- a Name that refers to a -/
theorem esRf (i : Nat) {a : Addr} (h : r[i]? = some (.rf a)) (hN : X.N[i]? = some x := by rfl) (hv : Vis X.env.scope x := by first | exact Or.inl rfl | exact Or.inr (Or.inl rfl) | exact Or.inr (Or.inr rfl)) (hd : (x == ("__debug__" : Str)) = false := by decide) (hcd : (x == ("__classdict__" : Str)) = false := by decide) :
    ∃ te, PE X (.Name x pos) te ∧ ∀ H σ, SOk X.K B r H σ → ∀ Q : VK, Q (.ref a) H → te σ H Q :=
  ⟨_, pe_var hN hv hd hcd, fun H σ S Q q => ⟨_, S.sl i _ h, q⟩⟩
/-- isinstance(e, D), e the exception of the suite -/
theorem evIsX {C Dc : Addr} {a : Addr} {oe : Obj} {pn : List (Addr × Obj)} {n y : Str} {k : Bool} {p p1 p2 : Pos} (i : Nat) (hs : SuOk C oe) (hr : r[i]? = some (.rf a)) (TC : ExcC X.K C) (gD : X.mg y = some (.ref Dc)) (hk : PySem.W.kitOne X.K (.ref C) (.ref Dc) = some k) (hm : X.mg "isinstance" = none) (hgD : Gl X y := by rfl) (hg : Gl X "isinstance" := by rfl)
    (hN : X.N[i]? = some n := by rfl) (hv : Vis X.env.scope n := by first | exact Or.inl rfl | exact Or.inr (Or.inl rfl) | exact Or.inr (Or.inr rfl)) (hd : (n == ("__debug__" : Str)) = false := by decide) (hcd : (n == ("__classdict__" : Str)) = false := by decide) (hdy : (y == ("__debug__" : Str)) = false := by decide)
    (hst : NSt X (.Name n p1) := by exact fun _ => rfl) (hst2 : NSt X (.Name y p2) := by exact fun _ => rfl) : EV (X.suite a ((a, oe) :: pn)) B (.Call (.Name "isinstance" p) [.Name n p1, .Name y p2] [] pos) r (.bool k) := by
  obtain ⟨te, pp, kk⟩ := esRf (X := X.suite a ((a, oe) :: pn)) (B := B) (pos := p1) i hr hN hv hd hcd
  refine ⟨_, pe_callB (X := X.suite a ((a, oe) :: pn)) (call_isE TC hs.1 hs.2) hg hm (by decide +kernel) (pa_cons pp (pa_cons (pe_glob (X := X.suite a ((a, oe) :: pn)) (v := .ref Dc) hgD gD rfl hdy) pa_nil (hst2 _)) (hst _)) (he := hst _) (hpl := by rw [hst2]; rfl), fun H σ S Q q => kk H σ S _ ?_⟩
  exact ⟨.ref Dc, .ref Dc, k, rfl, fun u ru => ru, hk, q _ H (Same.refl H) (.bl k)⟩
end
end Tp
namespace Tp
open PySem L2
section
variable {K : PySem.W.Frag} {mg : Str → Option Value} {x y : Str} {C Dc : Addr} {b : Bool}
theorem XcT.exm (TD : XcT K mg y Dc) (h : PySem.W.subIn K (.ref C) (.ref Dc) = some b) : PySem.W.exmOne K (.ref C) (.ref Dc) = some b := PySem.W.exm_ref TD.cl.hs TD.cl.hd TD.tC h
theorem XcT.kit (TD : XcT K mg y Dc) (h0 : PySem.W.subIn K (.ref C) (.ref C) = some true) (h : PySem.W.subIn K (.ref C) (.ref Dc) = some b) : PySem.W.kitOne K (.ref C) (.ref Dc) = some b := by
  unfold PySem.W.kitOne
  split
  · rename_i q
    have e : C = Dc := Value.ref.inj (beq_iff_eq.mp q)
    subst e
    exact h0.symm.trans h
  · obtain ⟨cd, hc, _⟩ := PySem.W.any_some TD.cl.hd
    show (if ((PySem.W.clsIn K Dc).isSome && PySem.W.typeIn K (.ref Dc) == some (.type "type")) = true then PySem.W.subIn K (.ref C) (.ref Dc) else none) = some b
    rw [if_pos (by rw [hc, TD.tC] <;> rfl)]
    exact h
end
end Tp
namespace Tp
open PySem L2
section
variable {X : Cx} {B : Bx} {W : WX} {P : Po} {r q : List Sl} {e : Expr} {rest : List Stmt} {pos pos' : Pos} {k : Nat}
theorem sv_brk (h : P.bk r) : SV X B W (.Break pos :: rest) r P := fun H σ E S kt => ⟨_, pss_cons ps_break wS_ok, kt.bk r σ H S h⟩
theorem sv_cont (h : P.ct r) : SV X B W (.Continue pos :: rest) r P := fun H σ E S kt => ⟨_, pss_cons ps_continue wS_ok, kt.ct r σ H S h⟩
theorem loop_ct {I : Nat → List Sl → Prop} {i : Nat} {q q' : List Sl} {bk : List Sl → Prop} (w : Wk q q') (h : I i q') : (P.loop (LN I i) bk).ct q := ⟨q', w, h⟩
theorem sv_asgX (i : Nat) {x : Str} {Ex : Addr → Prop} (g : Go X W k) (he : EX X B W e r Ex) (h : ∀ C, Ex C → P.ex C r) (hi : X.N[i]? = some x := by rfl) (hx : Loc X.env.scope x := by first | exact Or.inl rfl | exact Or.inr rfl)
    (hs : swapsWith e (some (.Name x pos')) pos.line X.env = pure false := by rfl) (hf : X.fn x = true ∨ X.env.scope.names.lookup x = some .local := by first | exact .inl rfl | exact .inr rfl) : SV X B W (.Assign [.Name x pos'] e pos :: rest) r P := fun H σ E S kt => by
  obtain ⟨te, p, q⟩ := he
  exact ⟨_, pss_cons (ps_set g.nd hi hx p hs hf) wS_ok, q H σ S _ fun C H1 s1 y => kt.ex C r σ H1 (S.mono s1) (h C y)⟩
end
end Tp

namespace Tp
open PySem L2
section
variable {X : Cx} {B : Bx} {W : WX} {P : Po} {r q : List Sl} {e a b c o tg : Expr} {es : List Expr} {rest body orelse : List Stmt} {st : Stmt} {d : D} {ds : List D} {pos pos' p : Pos} {k kk : Nat} {x : Str}
/-! known tests -/
theorem sv_ifT {k : Bool} (hc : ET X B c r k) (h : SV X B W body r (P.then fun r' => SV X B W rest r' P)) (hk : k = true := by rfl) : SV X B W (.If c body orelse pos :: rest) r P := sv_if hc (fun _ => h) fun z => by rw [hk] at z; cases z
theorem sv_ifF {k : Bool} (hc : ET X B c r k) (h : SV X B W orelse r (P.then fun r' => SV X B W rest r' P)) (hk : k = false := by rfl) : SV X B W (.If c body orelse pos :: rest) r P := sv_if hc (fun z => by rw [hk] at z; cases z) fun _ => h
theorem ixN_D {n : Nat} {j : Int} (h0 : 0 ≤ j) (h1 : j < n) : ixN n j = some j.toNat := by
  unfold ixN
  rw [if_pos h0, if_pos h1]
/-- x[i] = e, x an owned list -/
theorem sv_set (i : Nat) {l : Addr} {j : Int} {n : Nat} {px pp' : Pos} (hr : r[i]? = some (.ol l ds)) (he : EV X B e r d) (hk : EV X B b r (.int j)) (hj : ixN ds.length j = some n) (h : SV X B W rest (r.set i (.ol l (ds.set n d))) P) (hN : X.N[i]? = some x := by rfl) (hv : Vis X.env.scope x := by first | exact Or.inl rfl | exact Or.inr (Or.inl rfl) | exact Or.inr (Or.inr rfl)) (hd : (x == ("__debug__" : Str)) = false := by decide)
    (hcd : (x == ("__classdict__" : Str)) = false := by decide) (hs : swapsWithSole [.Subscript (.Name x px) b pp'] e pos.line X.env = pure false := by rfl) (hw : swappedStores [.Subscript (.Name x px) b pp'] e X.env = pure none := by rfl) (h1 : (assignEach [.Subscript (.Name x px) b pp'] X.env).map (·.2) = [assign (.Subscript (.Name x px) b pp') X.env] := by rfl)
    (ha : ∀ v, assign (.Subscript (.Name x px) b pp') X.env v = (do
      let ov ← holding [v] (eval (.Name x px) X.env)
      let iv ← holding [v, ov] (eval b X.env)
      standAt pp'
      holding [v, ov, iv] (setItem ov iv v)
      release [v, ov, iv] []) := by intro _; rfl) : SV X B W (.Assign [.Subscript (.Name x px) b pp'] e pos :: rest) r P := fun H σ E S kt => by
  obtain ⟨t, pt, kp⟩ := he
  obtain ⟨t', pt', kp'⟩ := hk
  refine ⟨_, pss_cons (ps_asg pt (pg_sub (pe_var hN hv hd hcd) pt' set_list ha) hs hw h1) wS_ok, kp H σ S _ fun v H1 s1 y => ?_⟩
  obtain ⟨e1, us, y1, z⟩ := (S.mono s1).sl i _ hr
  refine ⟨_, e1, kp' H1 σ (S.mono s1) _ fun w H2 s2 u => ?_⟩
  cases u
  have y2 : H2 l = some (.lst us) := s2.k y1
  refine ⟨l, us, j, n, rfl, rfl, y2, by rw [z.len]; exact hj, ?_⟩
  exact h _ _ E ((S.mono (s1.trans s2)).turn hr rfl rfl ⟨e1, _, upd_same, (z.mono (hide_mono s2)).set n (y.mono (hide_mono s2))⟩) kt
/-- [e, ..] + x, x an owned list: a new owned list -/
theorem enCat (i : Nat) {l : Addr} {ds2 : List D} {p1 p2 : Pos} (h : EA X B es r ds) (hr : r[i]? = some (.ol l ds2)) (hl : ds.length + ds2.length ≤ 100000) (hN : X.N[i]? = some x := by rfl) (hv : Vis X.env.scope x := by first | exact Or.inl rfl | exact Or.inr (Or.inl rfl) | exact Or.inr (Or.inr rfl)) (hd : (x == ("__debug__" : Str)) = false := by decide)
    (hcd : (x == ("__classdict__" : Str)) = false := by decide) : EN X B (.BinOp (.List es p1) .Add (.Name x p2) pos) r (fun p => .ol p (ds ++ ds2)) := by
  obtain ⟨t, pp, kt⟩ := h
  refine ⟨_, pe_op op_cat (pe_lst pp) (pe_var hN hv hd hcd), fun H σ S Q g => kt H σ S _ fun vs H1 s1 y => ⟨by rw [y.len]; exact line_of (by omega), fun p hp => ?_⟩⟩
  obtain ⟨e1, us, y1, z⟩ := (S.mono s1).sl i _ hr
  have np : l ≠ p := ne_of_none y1 hp
  refine ⟨_, e1, p, l, vs, us, rfl, rfl, upd_same, by rw [upd_ne np]; exact y1, by rw [y.len, z.len]; exact line_of hl, fun l' hl' => ?_⟩
  have s2 := same_new (o := .lst vs) hp
  exact g l' _ _ (s1.trans s2) hl' rfl ⟨rfl, _, upd_same, (y.mono (hide_mono s2)).app (z.mono (hide_mono s2))⟩
/-! ### reversed -/
theorem sv_forV (I : Nat → List Sl → Prop) (tq : D → List Sl → List Sl) {p2 p3 : Pos} (g : Go X W k) (he : EV X B e r (.list ds)) (hm : X.mg "reversed" = none) (ht : ∀ B (i : Nat) d r', ds.reverse[i]? = some d → GT X B tg r' d (tq d r')) (h0 : I 0 r)
    (hs : ∀ H1 (i : Nat) d r', ds.reverse[i]? = some d → I i r' → SV X ⟨H1, B.ps, B.ts, B.gr⟩ W body (tq d r') (P.loop (LN I (i + 1)) fun q => SV X B W rest q P)) (hd : ∀ r', I ds.length r' → SV X B W rest r' P) (hg : Gl X "reversed" := by rfl)
    (hst : starEach [e] X.env = (false, eval e X.env) :: starEach [] X.env := by rfl) (hfs : ∀ x, foldedSetIterable (.Call (.Name "reversed" p2) [e] [] p3) X.env x = pure x := by intro _; rfl) : SV X B W (.For tg (.Call (.Name "reversed" p2) [e] [] p3) body [] pos :: rest) r P := fun H σ E S kt => by
  obtain ⟨te, pe, ke⟩ := he
  refine ⟨_, pss_cons (ps_for g.po g.calm (RT.pi_revA hg hm pe hst) (wG_ok (tg := tg)) (wS_ok (sts := body)) hfs) wS_ok, ?_⟩
  refine ke H σ S _ fun v H1 s1 y => ?_
  have S1 := S.mono s1
  cases y with
  | @lst a xs _ h1 h2 =>
    have z1 : SqL X.K (hide H1 (own r)) a xs := (hide_sub fun p hp => List.mem_append_left _ hp : Same (hid B r H1) (hide H1 (own r))).seq h1
    have z2 : RpA X.K (hide (hide H1 (own r)) B.ps) xs ds := h2.mono fun b o eo => by
      have eo : hide H1 (own r ++ B.ps) b = some o := eo
      by_cases hb : b ∈ own r ++ B.ps
      · rw [hide_in hb] at eo; cases eo
      · rw [hide_out hb] at eo
        rw [hide_out fun w => hb (List.mem_append_right _ w), hide_out fun w => hb (List.mem_append_left _ w)]
        exact .inl eo
    refine ⟨a, xs, rfl, .inl ⟨hide_same.seq h1, ?_⟩⟩
    have hl : xs.length = ds.length := h2.len
    refine RT.for_Itv (g := wG X tg) (tb := wS X body) (D := { E with nx := wS X rest E }) (K := X.K) (a := a) (xs := xs) (fun i σ' H' => ∃ r', SOk X.K (B.at r H1) r' H' σ' ∧ I i r') ⟨r, S1.rebase, h0⟩ (fun i σ' H' ⟨r', S', hI⟩ => S'.ex.seq (H := hide H1 (own r)) z1) (fun i x σ' H' hi hx ⟨r', S', hI⟩ => ?_) (fun σ' H' ⟨r', S', hI⟩ => hd r' (hl ▸ hI) H' σ' E (S1.back S') kt)
    obtain ⟨d, hd', rd⟩ := z2.getV hx
    have hdr : ds.reverse[i]? = some d := by
      rw [List.getElem?_reverse (by omega), ← hl]; exact hd'
    obtain ⟨gx, px, kx⟩ := ht (B.at r H1) i d r' hdr
    have rd' : Rp X.K (hid (B.at r H1) r' H') x d := rd.mono fun b o eo => by
      show Ext1 o (hide H' (own r' ++ B.ps) b)
      by_cases hb : b ∈ B.ps
      · rw [hide_in hb] at eo; cases eo
      · rw [hide_out hb] at eo
        have e2 : Ext1 o (H' b) := S'.ex b o eo
        rw [hide_out fun w => (List.mem_append.mp w).elim (fun w' => by
          have := S'.new b w'
          rw [show (B.at r H1).H0 b = some o from eo] at this
          cases this) hb]
        exact e2
    exact ⟨gx, px, kx H' σ' _ S' rd' _ fun σ2 S2 => hs (hide H1 (own r)) i d r' hdr hI H' σ2 _ S2 (Kt.loop S1 kt _ fun q H3 σ3 S3 hI3 => ⟨q, S3, hI3⟩)⟩

theorem sv_forVT (I : Nat → List Sl → Prop) (tq : D → List Sl → List Sl) {p2 p3 : Pos} (g : Go X W k) (he : EV X B e r (.tuple ds)) (hm : X.mg "reversed" = none) (ht : ∀ B (i : Nat) d r', ds.reverse[i]? = some d → GT X B tg r' d (tq d r')) (h0 : I 0 r)
    (hs : ∀ H1 (i : Nat) d r', ds.reverse[i]? = some d → I i r' → SV X ⟨H1, B.ps, B.ts, B.gr⟩ W body (tq d r') (P.loop (LN I (i + 1)) fun q => SV X B W rest q P)) (hd : ∀ r', I ds.length r' → SV X B W rest r' P) (hg : Gl X "reversed" := by rfl)
    (hst : starEach [e] X.env = (false, eval e X.env) :: starEach [] X.env := by rfl) (hfs : ∀ x, foldedSetIterable (.Call (.Name "reversed" p2) [e] [] p3) X.env x = pure x := by intro _; rfl) : SV X B W (.For tg (.Call (.Name "reversed" p2) [e] [] p3) body [] pos :: rest) r P := fun H σ E S kt => by
  obtain ⟨te, pe, ke⟩ := he
  refine ⟨_, pss_cons (ps_for g.po g.calm (RT.pi_revA hg hm pe hst) (wG_ok (tg := tg)) (wS_ok (sts := body)) hfs) wS_ok, ?_⟩
  refine ke H σ S _ fun v H1 s1 y => ?_
  have S1 := S.mono s1
  cases y with
  | @tup a xs _ h1 h2 =>
    have z1 : SqT X.K (hide H1 (own r)) a xs := seqT (hide_sub fun p hp => List.mem_append_left _ hp : Same (hid B r H1) (hide H1 (own r))) h1
    have z2 : RpA X.K (hide (hide H1 (own r)) B.ps) xs ds := h2.mono fun b o eo => by
      have eo : hide H1 (own r ++ B.ps) b = some o := eo
      by_cases hb : b ∈ own r ++ B.ps
      · rw [hide_in hb] at eo; cases eo
      · rw [hide_out hb] at eo
        rw [hide_out fun w => hb (List.mem_append_right _ w), hide_out fun w => hb (List.mem_append_left _ w)]
        exact .inl eo
    refine ⟨a, xs, rfl, .inr ⟨seqT hide_same h1, ?_⟩⟩
    have hl : xs.length = ds.length := h2.len
    refine RT.for_ItvT (g := wG X tg) (tb := wS X body) (D := { E with nx := wS X rest E }) (K := X.K) (a := a) (xs := xs) (fun i σ' H' => ∃ r', SOk X.K (B.at r H1) r' H' σ' ∧ I i r') ⟨r, S1.rebase, h0⟩ (fun i σ' H' ⟨r', S', hI⟩ => seqT (H := hide H1 (own r)) S'.ex z1) (fun i x σ' H' hi hx ⟨r', S', hI⟩ => ?_) (fun σ' H' ⟨r', S', hI⟩ => hd r' (hl ▸ hI) H' σ' E (S1.back S') kt)
    obtain ⟨d, hd', rd⟩ := z2.getV hx
    have hdr : ds.reverse[i]? = some d := by
      rw [List.getElem?_reverse (by omega), ← hl]; exact hd'
    obtain ⟨gx, px, kx⟩ := ht (B.at r H1) i d r' hdr
    have rd' : Rp X.K (hid (B.at r H1) r' H') x d := rd.mono fun b o eo => by
      show Ext1 o (hide H' (own r' ++ B.ps) b)
      by_cases hb : b ∈ B.ps
      · rw [hide_in hb] at eo; cases eo
      · rw [hide_out hb] at eo
        have e2 : Ext1 o (H' b) := S'.ex b o eo
        rw [hide_out fun w => (List.mem_append.mp w).elim (fun w' => by
          have := S'.new b w'
          rw [show (B.at r H1).H0 b = some o from eo] at this
          cases this) hb]
        exact e2
    exact ⟨gx, px, kx H' σ' _ S' rd' _ fun σ2 S2 => hs (hide H1 (own r)) i d r' hdr hI H' σ2 _ S2 (Kt.loop S1 kt _ fun q H3 σ3 S3 hI3 => ⟨q, S3, hI3⟩)⟩

/-! ### all, any, sum of a list -/
theorem rp_bls {K : PySem.W.Frag} {H : Hp} : ∀ {vs : List V} {bs : List Bool}, RpA K H vs (bs.map PyData.bool) → vs = bs.map V.bl
  | _, [], h => by cases h; rfl
  | _, b :: bs, h => by
    cases h with
    | cons h1 h2 => cases h1; rw [rp_bls h2]; rfl
theorem rp_ints {K : PySem.W.Frag} {H : Hp} : ∀ {vs : List V} {bs : List Int}, RpA K H vs (bs.map PyData.int) → vs = bs.map V.int
  | _, [], h => by cases h; rfl
  | _, b :: bs, h => by
    cases h with
    | cons h1 h2 => cases h1; rw [rp_ints h2]; rfl
theorem evAll {bs : List Bool} {W : WX} (g : Go X W k) (h : EV X B e r (.list (bs.map PyData.bool))) (hm : X.mg "all" = none) (hg : Gl X "all" := by rfl) (hst : NSt X e := by exact fun _ => rfl) : EV X B (.Call (.Name "all" p) [e] [] pos) r (.bool (bs.all id)) := by
  obtain ⟨t, pp, q⟩ := h
  refine ⟨_, pe_callB (cr_all g.calm) hg hm (by decide +kernel) (pa_cons pp pa_nil (hst _)) (he := hst _), fun H σ S Q q' => q H σ S _ fun v H1 s1 y => ?_⟩
  cases y with
  | lst h1 h2 =>
    have e := rp_bls h2
    subst e
    exact ⟨_, bs, rfl, hide_same.seq h1, q' _ H1 s1 (.bl _)⟩
theorem evAny {bs : List Bool} {W : WX} (g : Go X W k) (h : EV X B e r (.list (bs.map PyData.bool))) (hm : X.mg "any" = none) (hg : Gl X "any" := by rfl) (hst : NSt X e := by exact fun _ => rfl) : EV X B (.Call (.Name "any" p) [e] [] pos) r (.bool (bs.any id)) := by
  obtain ⟨t, pp, q⟩ := h
  refine ⟨_, pe_callB (cr_any g.calm) hg hm (by decide +kernel) (pa_cons pp pa_nil (hst _)) (he := hst _), fun H σ S Q q' => q H σ S _ fun v H1 s1 y => ?_⟩
  cases y with
  | lst h1 h2 =>
    have e := rp_bls h2
    subst e
    exact ⟨_, bs, rfl, hide_same.seq h1, q' _ H1 s1 (.bl _)⟩
theorem evSum {bs : List Int} {W : WX} (g : Go X W k) (h : EV X B e r (.list (bs.map PyData.int))) (hm : X.mg "sum" = none) (hg : Gl X "sum" := by rfl) (hst : NSt X e := by exact fun _ => rfl) : EV X B (.Call (.Name "sum" p) [e] [] pos) r (.int bs.sum) := by
  obtain ⟨t, pp, q⟩ := h
  refine ⟨_, pe_callB (cr_sum g.calm) hg hm (by decide +kernel) (pa_cons pp pa_nil (hst _)) (he := hst _), fun H σ S Q q' => q H σ S _ fun v H1 s1 y => ?_⟩
  cases y with
  | lst h1 h2 =>
    have e := rp_ints h2
    subst e
    exact ⟨_, bs, rfl, hide_same.seq h1, q' _ H1 s1 (.int _)⟩

/-! ### comprehensions -/
theorem SOk.dock {K : PySem.W.Frag} {H : Hp} {σ : St} {Dl : Addr} {ob : HO} (S : SOk K B r H σ) (hD : H Dl = none) : SOk K ⟨hide (upd H Dl ob) (own r), Dl :: B.ps, B.ts, B.gr⟩ r (upd H Dl ob) σ := by
  have nD : Dl ∉ own r := fun z => by obtain ⟨u, e, nt⟩ := S.there z; rw [hD] at e; cases e
  have hh : Same (hid B r H) (hide (upd H Dl ob) (own r ++ Dl :: B.ps)) := fun b u eb => by
    have eb : hide H (own r ++ B.ps) b = some u := eb
    by_cases hb : b ∈ own r ++ B.ps
    · rw [hide_in hb] at eb; cases eb
    · rw [hide_out hb] at eb
      have nb : b ≠ Dl := ne_of_none eb hD
      rw [hide_out fun z => (List.mem_append.mp z).elim (fun y => hb (List.mem_append_left _ y)) fun y => (List.mem_cons.mp y).elim nb fun y => hb (List.mem_append_right _ y), upd_ne nb]
      exact .inl eb
  refine ⟨hide_same, fun p hp => ?_, fun p hp => hide_in hp, S.nd, S.len, fun i t e => (S.sl i t e).mono hh fun p hp => ?_, fun t ht => (S.tb t ht).mono (same_new hD), GOk.mono hh (fun q hq => upd_ne fun z => ?_) S.gr, fun p hp => List.mem_cons_of_mem _ (S.gp p hp)⟩
  · show hide (upd H Dl ob) (own r) p ≠ none
    rcases List.mem_cons.mp hp with z | z
    · subst z; rw [hide_out nD, upd_same]; exact fun z => nomatch z
    · have h0 := S.old p z
      have np : p ≠ Dl := fun y => S.dom p (List.mem_append_right _ z) (y ▸ hD)
      rw [hide_out fun y => h0 (S.new p y), upd_ne np]
      exact S.dom p (List.mem_append_right _ z)
  · exact upd_ne fun z => nD (z ▸ mem_own e hp)
  · subst z
    exact S.dom _ (List.mem_append_right _ (S.gp _ hq)) hD
theorem SOk.redock {K : PySem.W.Frag} {H : Hp} {σ : St} {Dl : Addr} {ob ob0 : HO} (S : SOk K B r H σ) (hD : Dl ∈ B.ps) (e0 : H Dl = some ob0) (nt : NT ob0) (hg : Dl ∉ gown B.gr) : SOk K ⟨hide (upd H Dl ob) (own r), B.ps, B.ts, B.gr⟩ r (upd H Dl ob) σ := by
  have nD : Dl ∉ own r := fun z => S.old Dl hD (S.new Dl z)
  refine ⟨hide_same, fun p hp => ?_, fun p hp => hide_in hp, S.nd, S.len, fun i t e => (S.sl i t e).mono (hide_upd (List.mem_append_right _ hD)) fun p hp => upd_ne fun z => nD (z ▸ mem_own e hp), fun t ht => (S.tb t ht).ext fun o eo => .inl ((upd_ne ((S.tb t ht).ne e0 nt)).trans eo), GOk.mono (hide_upd (List.mem_append_right _ hD)) (fun q hq => upd_ne fun z => hg (z ▸ hq)) S.gr, S.gp⟩
  show hide (upd H Dl ob) (own r) p ≠ none
  rw [hide_out fun y => S.old p hp (S.new p y)]
  by_cases np : p = Dl
  · subst np; rw [upd_same]; exact fun z => nomatch z
  · rw [upd_ne np]; exact S.dom p (List.mem_append_right _ hp)
/-- what a comprehension has gathered -/
def lcOut (pb : Nat → Bool) (f : Nat → D) : Nat → List D
  | 0 => []
  | i + 1 => if pb i = true then lcOut pb f i ++ [f i] else lcOut pb f i
theorem lcOut_len (pb : Nat → Bool) (f : Nat → D) : ∀ i, (lcOut pb f i).length ≤ i
  | 0 => Nat.le_refl _
  | i + 1 => by
    have := lcOut_len pb f i
    unfold lcOut
    split
    · rw [List.length_append]; exact Nat.succ_le_succ this
    · omega
theorem lcOut_all (f : Nat → D) : ∀ n, lcOut (fun _ => true) f n = (List.range n).map f
  | 0 => rfl
  | n + 1 => by
    unfold lcOut
    rw [if_pos rfl, lcOut_all f n, List.range_succ, List.map_append]
    rfl
theorem lcOut_take (pb : D → Bool) (f : D → D) (ds : List D) : ∀ n, n ≤ ds.length → lcOut (fun i => pb (ds.getD i .none)) (fun i => f (ds.getD i .none)) n = ((ds.take n).filter pb).map f
  | 0, _ => rfl
  | n + 1, h => by
    have hn : ds[n]? = some (ds.getD n .none) := by
      rw [List.getD_eq_getElem?_getD, List.getElem?_eq_getElem (by omega)]
      rfl
    unfold lcOut
    rw [lcOut_take pb f ds n (by omega), List.take_succ, hn]
    simp only [Option.toList]
    rw [List.filter_append, List.map_append]
    by_cases hp : pb (ds.getD n .none) = true
    · rw [if_pos hp, List.filter_cons_of_pos hp]; rfl
    · rw [if_neg hp, List.filter_cons_of_neg hp]; exact (List.append_nil _).symm
abbrev Blk (X : Cx) (scope : Scope) (s : Shared) (H0 : Hp) (cl : List (Str × Addr)) (C : Addr) (fp : List Addr) : Cx := X.blk s H0 scope (compEnvC scope cl C X.env) fp
theorem Go.blk {scope : Scope} {s : Shared} {H0 : Hp} {cl : List (Str × Addr)} {C : Addr} {fp : List Addr} (g : Go X W k) : Go (Blk X scope s H0 cl C fp) W0 k := ⟨g.hr, g.calm, PassesOwn.never, takes_none5, g.nd⟩
/-- a clause's tests, at the item d i -/
def LT (X : Cx) (B : Bx) (scope : Scope) (ifs : List Expr) (rs : Nat → List Sl) (n : Nat) (pb : Nat → Bool) : Prop :=
  ∃ tt, (∀ s H0 C cl fp, PTs (Blk X scope s H0 cl C fp) ifs tt) ∧ ∀ H' q' i H σ, i < n → SOk X.K ⟨H', q', B.ts, B.gr⟩ (rs i) H σ → ∀ Q : Bool → Hp → Prop, (∀ H', Same H H' → Q (pb i) H') → tt σ H Q
theorem lt_nil {scope : Scope} {rs : Nat → List Sl} {n : Nat} : LT X B scope [] rs n fun _ => true := ⟨_, fun _ _ _ _ _ => pts_nil, fun H' q' i H σ _ S Q q => q H (Same.refl H)⟩
theorem lt_one {scope : Scope} {rs : Nat → List Sl} {n : Nat} {pb : Nat → Bool} (h : ∀ s H0 C cl fp H' q' i, i < n → ET (Blk X scope s H0 cl C fp) ⟨H', q', B.ts, B.gr⟩ c (rs i) (pb i)) : LT X B scope [c] rs n pb :=
  ⟨fun σ H Q => ∀ s H0 C cl fp, wT (Blk X scope s H0 cl C fp) c σ H Q, fun s H0 C cl fp => pts_one ⟨fun pins s' σ H Q I z => wT_ok.run pins s' σ H Q I (z s H0 C cl fp)⟩, fun H' q' i H σ hi S Q q s H0 C cl fp => by
    obtain ⟨t, p, kk⟩ := h s H0 C cl fp H' q' i hi
    exact ⟨t, p, kk H σ S Q q⟩⟩
/-- the state between two turns -/
def LcP (K : PySem.W.Frag) (B : Bx) (r : List Sl) (ix : Nat) (σ : St) (H1 : Hp) (Dl : Addr) (ol : List D) (H' : Hp) : Prop :=
  Same H1 H' ∧ SOk K ⟨hide H' (own r), Dl :: B.ps, B.ts, B.gr⟩ r H' (σ.set ix none) ∧ Dl ∉ gown B.gr ∧ ∃ acc, H' Dl = some (.lst acc) ∧ RpA K (hide H' (Dl :: (own r ++ B.ps))) acc ol
theorem set_self {α : Type} : ∀ {l : List α} {i : Nat} {a : α}, l[i]? = some a → l.set i a = l
  | [], _, _, h => by simp at h
  | x :: l, 0, a, h => by simp at h; subst h; rfl
  | x :: l, i + 1, a, h => congrArg (x :: ·) (set_self (i := i) (by simpa using h))
theorem hid_eq {H : Hp} {os ps : List Addr} {Dl : Addr} : Same (hide H (os ++ Dl :: ps)) (hide H (Dl :: (os ++ ps))) := hide_sub fun p hp => (List.mem_cons.mp hp).elim (fun z => List.mem_append_right _ (z ▸ List.mem_cons_self)) fun z => (List.mem_append.mp z).elim (fun y => List.mem_append_left _ y) fun y => List.mem_append_right _ (List.mem_cons_of_mem _ y)
theorem lc_turn {ix : Nat} {elt : Expr} {scope : Scope} {σ : St} {H1 H' : Hp} {Dl : Addr} {n i : Nat} {pb : Nat → Bool} {f dv : Nat → D} {v : V} {tt : TT} (h0 : r[ix]? = some .no) (hD : H1 Dl = none) (hn : n ≤ 100000) (hi : i < n)
    (he : ∀ s H0 C cl fp H' q' i, i < n → pb i = true → EV (Blk X scope s H0 cl C fp) ⟨H', q', B.ts, B.gr⟩ elt (r.set ix (.im (dv i))) (f i))
    (ht : ∀ H' q' i H σ, i < n → SOk X.K ⟨H', q', B.ts, B.gr⟩ (r.set ix (.im (dv i))) H σ → ∀ Q : Bool → Hp → Prop, (∀ H', Same H H' → Q (pb i) H') → tt σ H Q)
    (p : LcP X.K B r ix σ H1 Dl (lcOut pb f i) H') (hv : Rp X.K (hide H' (own r ++ Dl :: B.ps)) v (dv i)) :
    gName ix v (wipe σ [ix]) H' fun σ2 H2 => wipe σ2 [ix] = wipe σ [ix] ∧ tt σ2 H2 fun b H3 =>
      if b = true then (fun σ H Q => ∀ s H0 C cl fp, wE (Blk X scope s H0 cl C fp) elt σ H Q : TE) σ2 H3 fun y H4 => ∃ acc, H4 Dl = some (.lst acc) ∧ acc.length < sizeLine ∧ LcP X.K B r ix σ H1 Dl (lcOut pb f (i + 1)) (upd H4 Dl (.lst (acc ++ [y]))) else LcP X.K B r ix σ H1 Dl (lcOut pb f (i + 1)) H3 := by
  obtain ⟨p1, S, pg, acc, p2, p3⟩ := p
  show (((σ.set ix none).set ix (some v)).set ix none = σ.set ix none) ∧ tt ((σ.set ix none).set ix (some v)) H' _
  refine ⟨by rw [List.set_set, List.set_set], ?_⟩
  have S2 : SOk X.K ⟨hide H' (own r), Dl :: B.ps, B.ts, B.gr⟩ (r.set ix (.im (dv i))) H' ((σ.set ix none).set ix (some v)) := S.im hv
  refine ht _ _ i H' _ hi S2 _ fun H3 s3 => ?_
  have S3 := S2.mono s3
  have S3' := S.mono s3
  have p2' : H3 Dl = some (.lst acc) := s3.k p2
  have p3' := p3.mono (hide_mono (ps := Dl :: (own r ++ B.ps)) s3)
  cases hb : pb i with
  | false =>
    rw [if_neg Bool.false_ne_true]
    unfold lcOut
    rw [if_neg (by rw [hb]; exact Bool.false_ne_true)]
    exact ⟨p1.trans s3, S3'.rebase, pg, acc, p2', p3'⟩
  | true =>
    rw [if_pos rfl]
    intro s H0 C cl fp
    obtain ⟨t, pt, kt⟩ := he s H0 C cl fp (hide H' (own r)) (Dl :: B.ps) i hi hb
    refine ⟨t, pt, kt H3 _ S3 _ fun y H4 s4 ry => ?_⟩
    have p2'' : H4 Dl = some (.lst acc) := s4.k p2'
    have hl := lcOut_len pb f i
    have hln := p3'.len
    refine ⟨acc, p2'', by rw [hln]; exact Nat.lt_of_lt_of_le (by omega : _ < 100000) (by decide : 100000 ≤ sizeLine), ?_, ?_, pg, acc ++ [y], upd_same, ?_⟩
    · intro b u eb
      rw [upd_ne (ne_of_none eb hD)]
      exact ((p1.trans s3).trans s4) b u eb
    · exact (S3'.mono s4).redock List.mem_cons_self p2'' trivial pg
    · unfold lcOut
      rw [if_pos hb]
      refine ((p3'.mono (hide_mono s4)).app (.one ?_)).mono (hide_upd List.mem_cons_self)
      have eo : own (r.set ix (.im (dv i))) = own r := own_set_eq (s := .no) (s' := .im (dv i)) rfl h0
      have ry : Rp X.K (hide H4 (own (r.set ix (.im (dv i))) ++ Dl :: B.ps)) y (f i) := ry
      rw [eo] at ry
      exact ry.mono hid_eq
theorem LcP.start {K : PySem.W.Frag} {ix : Nat} {σ : St} {H1 : Hp} {Dl : Addr} (h0 : r[ix]? = some .no) (S : SOk K B r H1 σ) (hD : H1 Dl = none) : LcP K B r ix σ H1 Dl [] (upd H1 Dl (.lst [])) := by
  have S' := S.setNo (i := ix)
  rw [set_self h0] at S'
  exact ⟨same_new hD, S'.dock hD, fun z => S.dom Dl (List.mem_append_right _ (S.gp Dl z)) hD, [], upd_same, .nil⟩
theorem LcP.done {K : PySem.W.Frag} {ix : Nat} {σ : St} {H1 H' : Hp} {Dl : Addr} {ol : List D} (S : SOk K B r H1 σ) (hD : H1 Dl = none) (p : LcP K B r ix σ H1 Dl ol H') : Rp K (hid B r H') (.ref Dl) (.list ol) := by
  obtain ⟨p1, _, _, acc, p2, p3⟩ := p
  refine .lst (SqL.of ?_) (p3.mono (hide_sub fun q hq => List.mem_cons_of_mem _ hq))
  show hide H' (own r ++ B.ps) Dl = _
  rw [hide_out fun z => S.dom Dl z hD]; exact p2
theorem LcP.see {K : PySem.W.Frag} {ix : Nat} {σ : St} {H1 H' : Hp} {Dl : Addr} {ol : List D} (hD : H1 Dl = none) (p : LcP K B r ix σ H1 Dl ol H') : Same (hid B r H1) (hide H' (own r ++ Dl :: B.ps)) := fun b u eb => by
  have eb : hide H1 (own r ++ B.ps) b = some u := eb
  by_cases hb : b ∈ own r ++ B.ps
  · rw [hide_in hb] at eb; cases eb
  · rw [hide_out hb] at eb
    have nb : b ≠ Dl := ne_of_none eb hD
    rw [hide_out fun z => (List.mem_append.mp z).elim (fun y => hb (List.mem_append_left _ y)) fun y => (List.mem_cons.mp y).elim nb fun y => hb (List.mem_append_right _ y)]
    exact p.1 _ _ eb
/-- a comprehension, as a value or stored -/
def LcD (X : Cx) (B : Bx) (e : Expr) (r : List Sl) (d : D) : Prop :=
  ∃ te, PE X e te ∧ (∀ (i : Nat) (y : Str) (py spos : Pos), X.N[i]? = some y → X.env.scope.names.lookup y = some .local → swapsWith e (some (.Name y py)) spos.line X.env = pure true → PS X (.Assign [.Name y py] e spos) (tAsg te (gName i))) ∧
    ∀ H σ, SOk X.K B r H σ → ∀ Q : VK, (∀ Dl H1 H' acc ds, d = .list ds → Same H H1 → H1 Dl = none → SOk X.K B r H1 σ → Same H1 H' → H' Dl = some (.lst acc) → RpA X.K (hide H' (Dl :: (own r ++ B.ps))) acc ds → Q (.ref Dl) H') → te σ H Q
theorem lc_val {K : PySem.W.Frag} {σ : St} {H H1 H' : Hp} {Dl : Addr} {acc : List V} {ds : List D} (S : SOk K B r H1 σ) (hD : H1 Dl = none) (p2 : H' Dl = some (.lst acc)) (p3 : RpA K (hide H' (Dl :: (own r ++ B.ps))) acc ds) : Rp K (hid B r H') (.ref Dl) (.list ds) := by
  refine .lst (SqL.of ?_) (p3.mono (hide_sub fun q hq => List.mem_cons_of_mem _ hq))
  show hide H' (own r ++ B.ps) Dl = _
  rw [hide_out fun z => S.dom Dl z hD]; exact p2
theorem LcD.ev (h : LcD X B e r d) : EV X B e r d := let ⟨te, p, _, q⟩ := h; ⟨te, p, fun H σ S Q g => q H σ S Q fun Dl H1 H' acc ds ed s1 hD S1 s2 p2 p3 => g _ _ (s1.trans s2) (by subst ed; exact lc_val (H := H) S1 hD p2 p3)⟩
/-- a comprehension: a new owned list -/
theorem LcD.en (h : LcD X B e r (.list ds)) : EN X B e r (fun p => .ol p ds) := let ⟨te, p, _, q⟩ := h; ⟨te, p, fun H σ S Q g => q H σ S Q fun Dl H1 H' acc ds' ed s1 hD S1 s2 p2 p3 => by
  cases ed
  have e1 : ∀ b, b ≠ Dl → (fun b => if b = Dl then none else H' b) b = H' b := fun b hb => if_neg hb
  have s3 : Same H1 (fun b => if b = Dl then none else H' b) := fun b u eb => by
    rw [e1 b (ne_of_none eb hD)]; exact s2 b u eb
  have e2 : upd (fun b => if b = Dl then none else H' b) Dl (.lst acc) = H' := by
    funext b
    by_cases hb : b = Dl
    · subst hb; rw [upd_same, p2]
    · rw [upd_ne hb]; exact if_neg hb
  have z := g Dl (.lst acc) (fun b => if b = Dl then none else H' b) (s1.trans s3) (if_pos rfl) rfl ⟨rfl, acc, by rw [upd_same], p3.mono fun b u eb => ?_⟩
  · rw [e2] at z; exact z
  · by_cases hb : b = Dl
    · subst hb; rw [hide_in List.mem_cons_self] at eb; cases eb
    · by_cases hb2 : b ∈ own r ++ B.ps
      · rw [hide_in (List.mem_cons_of_mem _ hb2)] at eb; cases eb
      · rw [hide_out (fun z => (List.mem_cons.mp z).elim hb hb2)] at eb
        refine .inl ?_
        show hide _ (own r ++ B.ps) b = _
        rw [hide_out hb2]; exact (if_neg hb).trans eb⟩
theorem sv_asgLc (i : Nat) {W : WX} {elt : Expr} {gs : List Comprehension} {scope : Scope} {lp : Pos} (he : LcD X B (.ListComp elt gs scope lp) r d) (h : SV X B W rest (r.set i (.im d)) P) (hi : X.N[i]? = some x := by rfl) (hx : X.env.scope.names.lookup x = some .local := by rfl)
    (hk : X.env.scope.kind = .function := by rfl) (hl : (pos'.line == lp.line) = true := by rfl) (ha : (scope.names.any fun (n, k) => n == x && (k == .local || k == .cell)) = false := by rfl) : SV X B W (.Assign [.Name x pos'] (.ListComp elt gs scope lp) pos :: rest) r P := fun H σ E S kt => by
  obtain ⟨te, _, p, q⟩ := he
  exact ⟨_, pss_cons (p i x pos' pos hi hx (sw_true hk hx hl ha)) wS_ok, q H σ S _ fun Dl H1 H' acc ds ed s1 hD S1 s2 p2 p3 => h H' _ E ((S.mono (s1.trans s2)).im (by subst ed; exact lc_val (H := H) S1 hD p2 p3)) kt⟩
/-- [elt for x in range(n) if ..] -/
theorem evLcR (ix : Nat) {n : Int} {pb : Nat → Bool} {f : Nat → D} {elt : Expr} {ifs : List Expr} {px p2 cp : Pos} {scope : Scope} (g : Go X W k) (hn : EV X B a r (.int n)) (hz : 0 ≤ n ∧ n ≤ 100000) (hm : X.mg "range" = none) (ht : LT X B scope ifs (fun i => r.set ix (.im (.int (i : Int)))) n.toNat pb)
    (he : ∀ s H0 C cl fp H' q' i, i < n.toNat → pb i = true → EV (Blk X scope s H0 cl C fp) ⟨H', q', B.ts, B.gr⟩ elt (r.set ix (.im (.int (i : Int)))) (f i)) (h0 : r[ix]? = some .no := by rfl) (hg : Gl X "range" := by rfl) (ok : BlkOk X.N X.env.scope scope [(x, ix)] := by exact blkOk_by (by rfl)) (hi : X.N[ix]? = some x := by rfl)
    (hx : Loc (compEnvC scope [] 0 X.env).scope x := by first | exact Or.inl rfl | exact Or.inr rfl) (hf : (scope.names.lookup x == some .cell) = true ∨ (compEnvC scope [] 0 X.env).scope.names.lookup x = some .local := by first | exact Or.inr rfl | exact Or.inl rfl)
    (hst : starEach [a] X.env = [(false, eval a X.env)] := by rfl) (hs : ∀ v, foldedSetIterable (.Call (.Name "range" p2) [a] [] cp) X.env v = pure v := by intro _; rfl) :
    LcD X B (.ListComp elt [⟨.Name x px, .Call (.Name "range" p2) [a] [] cp, ifs, 0⟩] scope pos) r (.list (lcOut pb f n.toNat)) := by
  obtain ⟨ta, pa, ka⟩ := hn
  obtain ⟨tt, pt, kt⟩ := ht
  refine ⟨_, pe_lc (own := [(x, ix)]) (te := fun σ H Q => ∀ s H0 C cl fp, wE (Blk X scope s H0 cl C fp) elt σ H Q) g.calm g.nd (pi_range1 hg hm (pa_cons pa pa_nil (by rw [hst]; rfl)) hst) ok (fun s H0 C cl fp => pg_name (i := ix) g.nd hi hx hf) pt (fun s H0 C cl fp => ⟨fun pins s' σ H Q I z => wE_ok.run pins s' σ H Q I (z s H0 C cl fp)⟩) hs, fun i y py spos hy hl hsw => ps_setLc (own := [(x, ix)]) (te := fun σ H Q => ∀ s H0 C cl fp, wE (Blk X scope s H0 cl C fp) elt σ H Q) g.calm g.nd hy hl hsw (pi_range1 hg hm (pa_cons pa pa_nil (by rw [hst]; rfl)) hst) ok (fun s H0 C cl fp => pg_name (i := ix) g.nd hi hx hf) pt (fun s H0 C cl fp => ⟨fun pins s' σ H Q I z => wE_ok.run pins s' σ H Q I (z s H0 C cl fp)⟩) hs, fun H σ S Q q => ?_⟩
  refine ka H σ S _ fun v H1 s1 y => ?_
  cases y
  refine ⟨n, rfl, by omega, by omega, fun Dl hD => ?_⟩
  have S1 := S.mono s1
  refine lc_range (g := gName ix) (tt := tt) (te := fun σ H Q => ∀ s H0 C cl fp, wE (Blk X scope s H0 cl C fp) elt σ H Q) (vs := [ix]) (σ := σ) (lo := 0) (n := n.toNat) (fun i H' => LcP X.K B r ix σ H1 Dl (lcOut pb f i) H') (LcP.start h0 S1 hD) (fun i H' hi' p => ?_) fun H' p => let ⟨p1, _, _, acc, p2, p3⟩ := p; q Dl H1 H' acc _ rfl s1 hD S1 p1 p2 p3
  rw [Int.zero_add]
  exact lc_turn (dv := fun i => .int (i : Int)) h0 hD (by omega) hi' he kt p (.int _)
/-- the tests, at the items of a sequence -/
def LTQ (X : Cx) (B : Bx) (scope : Scope) (ifs : List Expr) (r : List Sl) (ix : Nat) {α : Type} (L : List α) (gd : α → D) (pb : α → Bool) : Prop :=
  ∃ tt, (∀ s H0 C cl fp, PTs (Blk X scope s H0 cl C fp) ifs tt) ∧ ∀ H' q' u H σ, u ∈ L → SOk X.K ⟨H', q', B.ts, B.gr⟩ (r.set ix (.im (gd u))) H σ → ∀ Q : Bool → Hp → Prop, (∀ H', Same H H' → Q (pb u) H') → tt σ H Q
theorem ltq_nil {scope : Scope} {r : List Sl} {ix : Nat} {α : Type} {L : List α} {gd : α → D} : LTQ X B scope [] r ix L gd fun _ => true := ⟨_, fun _ _ _ _ _ => pts_nil, fun H' q' i H σ _ S Q q => q H (Same.refl H)⟩
theorem ltq_one {scope : Scope} {r : List Sl} {ix : Nat} {α : Type} {L : List α} {gd : α → D} {pb : α → Bool} (h : ∀ s H0 C cl fp H' q' u, u ∈ L → ET (Blk X scope s H0 cl C fp) ⟨H', q', B.ts, B.gr⟩ c (r.set ix (.im (gd u))) (pb u)) : LTQ X B scope [c] r ix L gd pb :=
  ⟨fun σ H Q => ∀ s H0 C cl fp, wT (Blk X scope s H0 cl C fp) c σ H Q, fun s H0 C cl fp => pts_one ⟨fun pins s' σ H Q I z => wT_ok.run pins s' σ H Q I (z s H0 C cl fp)⟩, fun H' q' i H σ hi S Q q s H0 C cl fp => by
    obtain ⟨t, p, kk⟩ := h s H0 C cl fp H' q' i hi
    exact ⟨t, p, kk H σ S Q q⟩⟩
def atB {α : Type} (pb : α → Bool) (L : List α) (i : Nat) : Bool := match L[i]? with
  | some a => pb a
  | none => false
def atD {α : Type} (f : α → D) (L : List α) (i : Nat) : D := match L[i]? with
  | some a => f a
  | none => .none
theorem lcOut_on {α : Type} (pb : α → Bool) (f : α → D) (L : List α) : ∀ n, n ≤ L.length → lcOut (atB pb L) (atD f L) n = ((L.take n).filter pb).map f
  | 0, _ => rfl
  | n + 1, h => by
    have hn : L[n]? = some (L[n]'(by omega)) := List.getElem?_eq_getElem (by omega)
    unfold lcOut
    rw [lcOut_on pb f L n (by omega), List.take_succ, hn]
    have e1 : atB pb L n = pb (L[n]'(by omega)) := by unfold atB; rw [hn]
    have e2 : atD f L n = f (L[n]'(by omega)) := by unfold atD; rw [hn]
    rw [e1, e2]
    simp only [Option.toList]
    rw [List.filter_append, List.map_append]
    by_cases hp : pb (L[n]'(by omega)) = true
    · rw [if_pos hp, List.filter_cons_of_pos hp]; rfl
    · rw [if_neg hp, List.filter_cons_of_neg hp]; exact (List.append_nil _).symm
/-- [elt for x in a list, a tuple if ..] -/
theorem evLcQ (ix : Nat) {tp : Bool} {α : Type} {L : List α} {gd : α → D} {pb : α → Bool} {f : α → D} {elt : Expr} {ifs : List Expr} {px : Pos} {scope : Scope} (g : Go X W k) (hn : ES X B a r tp (L.map gd)) (hz : L.length ≤ 100000) (ht : LTQ X B scope ifs r ix L gd pb)
    (he : ∀ s H0 C cl fp H' q' u, u ∈ L → pb u = true → EV (Blk X scope s H0 cl C fp) ⟨H', q', B.ts, B.gr⟩ elt (r.set ix (.im (gd u))) (f u)) (h0 : r[ix]? = some .no := by rfl) (ok : BlkOk X.N X.env.scope scope [(x, ix)] := by exact blkOk_by (by rfl)) (hi : X.N[ix]? = some x := by rfl)
    (hx : Loc (compEnvC scope [] 0 X.env).scope x := by first | exact Or.inl rfl | exact Or.inr rfl) (hf : (scope.names.lookup x == some .cell) = true ∨ (compEnvC scope [] 0 X.env).scope.names.lookup x = some .local := by first | exact Or.inr rfl | exact Or.inl rfl)
    (hs : ∀ v, foldedSetIterable a X.env v = pure v := by intro _; rfl) :
    LcD X B (.ListComp elt [⟨.Name x px, a, ifs, 0⟩] scope pos) r (.list ((L.filter pb).map f)) := by
  obtain ⟨ta, pa, ka⟩ := hn
  obtain ⟨tt, pt, kt⟩ := ht
  have fin : (L.filter pb).map f = lcOut (atB pb L) (atD f L) L.length := by rw [lcOut_on pb f L _ (Nat.le_refl _), List.take_length]
  have he' : ∀ s H0 C cl fp H' q' i, i < L.length → atB pb L i = true → EV (Blk X scope s H0 cl C fp) ⟨H', q', B.ts, B.gr⟩ elt (r.set ix (.im (atD gd L i))) (atD f L i) := fun s H0 C cl fp H' q' i hi hp => by
    have hL : L[i]? = some (L[i]'hi) := List.getElem?_eq_getElem hi
    have e1 : atB pb L i = pb (L[i]'hi) := by unfold atB; rw [hL]
    have e2 : atD f L i = f (L[i]'hi) := by unfold atD; rw [hL]
    have e3 : atD gd L i = gd (L[i]'hi) := by unfold atD; rw [hL]
    rw [e2, e3]
    exact he s H0 C cl fp H' q' _ (List.getElem_mem hi) (e1 ▸ hp)
  have kt' : ∀ H' q' i H σ, i < L.length → SOk X.K ⟨H', q', B.ts, B.gr⟩ (r.set ix (.im (atD gd L i))) H σ → ∀ Q : Bool → Hp → Prop, (∀ H', Same H H' → Q (atB pb L i) H') → tt σ H Q := fun H' q' i H σ hi S Q q => by
    have hL : L[i]? = some (L[i]'hi) := List.getElem?_eq_getElem hi
    have e1 : atB pb L i = pb (L[i]'hi) := by unfold atB; rw [hL]
    have e3 : atD gd L i = gd (L[i]'hi) := by unfold atD; rw [hL]
    rw [e3] at S
    rw [e1] at q
    exact kt H' q' _ H σ (List.getElem_mem hi) S Q q
  have itm : ∀ {G : Hp} {xs : List V} {i : Nat} {v : V}, RpA X.K G xs (L.map gd) → xs[i]? = some v → i < L.length ∧ Rp X.K G v (atD gd L i) := fun {G xs i v} h2 hv => by
    obtain ⟨d, hd, rd⟩ := h2.getV hv
    rw [List.getElem?_map] at hd
    cases e : L[i]? with
    | none => rw [e] at hd; cases hd
    | some u =>
      rw [e] at hd
      cases hd
      refine ⟨(List.getElem?_eq_some_iff.mp e).1, ?_⟩
      unfold atD; rw [e]
      exact rd
  cases tp with
  | false =>
    refine ⟨_, pe_lc (own := [(x, ix)]) (te := fun σ H Q => ∀ s H0 C cl fp, wE (Blk X scope s H0 cl C fp) elt σ H Q) g.calm g.nd (pi_list pa) ok (fun s H0 C cl fp => pg_name (i := ix) g.nd hi hx hf) pt (fun s H0 C cl fp => ⟨fun pins s' σ H Q I z => wE_ok.run pins s' σ H Q I (z s H0 C cl fp)⟩) hs, fun i y py spos hy hl hsw => ps_setLc (own := [(x, ix)]) (te := fun σ H Q => ∀ s H0 C cl fp, wE (Blk X scope s H0 cl C fp) elt σ H Q) g.calm g.nd hy hl hsw (pi_list pa) ok (fun s H0 C cl fp => pg_name (i := ix) g.nd hi hx hf) pt (fun s H0 C cl fp => ⟨fun pins s' σ H Q I z => wE_ok.run pins s' σ H Q I (z s H0 C cl fp)⟩) hs, fun H σ S Q q => ?_⟩
    refine ka H σ S _ fun a xs H1 s1 h1 h2 => ?_
    refine ⟨a, rfl, ⟨xs, h1⟩, fun Dl hD => ?_⟩
    have S1 := S.mono s1
    have hl := h2.len
    rw [List.length_map] at hl
    refine lc_list (g := gName ix) (tt := tt) (te := fun σ H Q => ∀ s H0 C cl fp, wE (Blk X scope s H0 cl C fp) elt σ H Q) (vs := [ix]) (σ := σ) (K := X.K) (a := a) (xs := xs) (fun i H' => LcP X.K B r ix σ H1 Dl (lcOut (atB pb L) (atD f L) i) H') (LcP.start h0 S1 hD) (fun i H' _ p => p.1.seq h1) (fun i v H' hv p => ?_) fun H' p => let ⟨p1, _, _, acc, p2, p3⟩ := p; q Dl H1 H' acc _ rfl s1 hD S1 p1 p2 ?_
    · obtain ⟨hi', rd⟩ := itm h2 hv
      exact lc_turn (dv := atD gd L) h0 hD hz hi' he' kt' p (Rp.mono (p.see hD) rd)
    · rw [fin, ← hl]
      exact p3
  | true =>
    refine ⟨_, pe_lc (own := [(x, ix)]) (te := fun σ H Q => ∀ s H0 C cl fp, wE (Blk X scope s H0 cl C fp) elt σ H Q) g.calm g.nd (pi_tup pa) ok (fun s H0 C cl fp => pg_name (i := ix) g.nd hi hx hf) pt (fun s H0 C cl fp => ⟨fun pins s' σ H Q I z => wE_ok.run pins s' σ H Q I (z s H0 C cl fp)⟩) hs, fun i y py spos hy hl hsw => ps_setLc (own := [(x, ix)]) (te := fun σ H Q => ∀ s H0 C cl fp, wE (Blk X scope s H0 cl C fp) elt σ H Q) g.calm g.nd hy hl hsw (pi_tup pa) ok (fun s H0 C cl fp => pg_name (i := ix) g.nd hi hx hf) pt (fun s H0 C cl fp => ⟨fun pins s' σ H Q I z => wE_ok.run pins s' σ H Q I (z s H0 C cl fp)⟩) hs, fun H σ S Q q => ?_⟩
    refine ka H σ S _ fun a xs H1 s1 h1 h2 => ?_
    refine ⟨a, rfl, ⟨xs, h1⟩, fun Dl hD => ?_⟩
    have S1 := S.mono s1
    have hl := h2.len
    rw [List.length_map] at hl
    refine lc_tup (g := gName ix) (tt := tt) (te := fun σ H Q => ∀ s H0 C cl fp, wE (Blk X scope s H0 cl C fp) elt σ H Q) (vs := [ix]) (σ := σ) (K := X.K) (a := a) (xs := xs) (fun i H' => LcP X.K B r ix σ H1 Dl (lcOut (atB pb L) (atD f L) i) H') (LcP.start h0 S1 hD) (fun i H' _ p => seqT p.1 h1) (fun i v H' hv p => ?_) fun H' p => let ⟨p1, _, _, acc, p2, p3⟩ := p; q Dl H1 H' acc _ rfl s1 hD S1 p1 p2 ?_
    · obtain ⟨hi', rd⟩ := itm h2 hv
      exact lc_turn (dv := atD gd L) h0 hD hz hi' he' kt' p (Rp.mono (p.see hD) rd)
    · rw [fin, ← hl]
      exact p3
end
end Tp
namespace Tp
open PySem L2
section
variable {X : Cx} {B : Bx} {W : WX} {r : List Sl} {e : Expr} {ds : List D} {pos p : Pos} {k : Nat}
theorem map_mapB {α : Type} (l : List α) (h : α → Bool) : (l.map fun i => PyData.bool (h i)) = (l.map h).map PyData.bool := by rw [List.map_map]; rfl
theorem map_mapI {α : Type} (l : List α) (h : α → Int) : (l.map fun i => PyData.int (h i)) = (l.map h).map PyData.int := by rw [List.map_map]; rfl
theorem evAllR {h : Nat → Bool} {n : Nat} (g : Go X W k) (he : EV X B e r (.list (lcOut (fun _ => true) (fun i => .bool (h i)) n))) (hm : X.mg "all" = none) (hg : Gl X "all" := by rfl) (hst : NSt X e := by exact fun _ => rfl) : EV X B (.Call (.Name "all" p) [e] [] pos) r (.bool ((List.range n).all h)) := by
  rw [lcOut_all, map_mapB] at he
  have z := evAll g he hm hg hst (pos := pos) (p := p)
  rw [List.all_map] at z
  exact z
theorem evAnyR {h : Nat → Bool} {n : Nat} (g : Go X W k) (he : EV X B e r (.list (lcOut (fun _ => true) (fun i => .bool (h i)) n))) (hm : X.mg "any" = none) (hg : Gl X "any" := by rfl) (hst : NSt X e := by exact fun _ => rfl) : EV X B (.Call (.Name "any" p) [e] [] pos) r (.bool ((List.range n).any h)) := by
  rw [lcOut_all, map_mapB] at he
  have z := evAny g he hm hg hst (pos := pos) (p := p)
  rw [List.any_map] at z
  exact z
theorem evAllQ {α : Type} {ds : List α} {h : α → Bool} (g : Go X W k) (he : EV X B e r (.list (ds.map fun d => .bool (h d)))) (hm : X.mg "all" = none) (hg : Gl X "all" := by rfl) (hst : NSt X e := by exact fun _ => rfl) : EV X B (.Call (.Name "all" p) [e] [] pos) r (.bool (ds.all h)) := by
  rw [map_mapB] at he
  have z := evAll g he hm hg hst (pos := pos) (p := p)
  rw [List.all_map] at z
  exact z
theorem evAnyQ {α : Type} {ds : List α} {h : α → Bool} (g : Go X W k) (he : EV X B e r (.list (ds.map fun d => .bool (h d)))) (hm : X.mg "any" = none) (hg : Gl X "any" := by rfl) (hst : NSt X e := by exact fun _ => rfl) : EV X B (.Call (.Name "any" p) [e] [] pos) r (.bool (ds.any h)) := by
  rw [map_mapB] at he
  have z := evAny g he hm hg hst (pos := pos) (p := p)
  rw [List.any_map] at z
  exact z
theorem evSumQ {α : Type} {ds : List α} {h : α → Int} (g : Go X W k) (he : EV X B e r (.list (ds.map fun d => .int (h d)))) (hm : X.mg "sum" = none) (hg : Gl X "sum" := by rfl) (hst : NSt X e := by exact fun _ => rfl) : EV X B (.Call (.Name "sum" p) [e] [] pos) r (.int (ds.map h).sum) := by
  rw [map_mapI] at he
  exact evSum g he hm hg hst
end

mutual
inductive Sm : Nat → D → Prop
  | non {n : Nat} : Sm n .none
  | bl {n : Nat} {b : Bool} : Sm n (.bool b)
  | int {n : Nat} {i : Int} : Sm n (.int i)
  | str {n : Nat} {x : Str} : Sm n (.str x)
  | tup {n : Nat} {ds : List D} : ds.length ≤ 100000 → SmA n ds → Sm (n + 1) (.tuple ds)
inductive SmA : Nat → List D → Prop
  | nil {n : Nat} : SmA n []
  | cons {n : Nat} {d : D} {ds : List D} : Sm n d → SmA n ds → SmA n (d :: ds)
end
theorem SmA.at : ∀ {n : Nat} {ds : List D} {i : Nat}, SmA n ds → i < ds.length → Sm n (ds.getD i .none)
  | _, _, _, .nil, h => by simp at h
  | _, _, 0, .cons a _, _ => a
  | _, _, i + 1, .cons _ b, h => SmA.at (i := i) b (by simpa using h)
theorem SmA.map {α : Type} {n : Nat} {f : α → D} (h : ∀ x, Sm n (f x)) : ∀ (l : List α), SmA n (l.map f)
  | [] => .nil
  | _ :: l => .cons (h _) (SmA.map h l)
theorem SmA.app {n : Nat} : ∀ {a b : List D}, SmA n a → SmA n b → SmA n (a ++ b)
  | _, _, .nil, h => h
  | _, _, .cons h a, b => .cons h (SmA.app a b)
mutual
theorem Sm.up : ∀ {n : Nat} {d : D}, Sm n d → Sm (n + 1) d
  | _, _, .non => .non
  | _, _, .bl => .bl
  | _, _, .int => .int
  | _, _, .str => .str
  | _, _, .tup l h => .tup l (SmA.up h)
theorem SmA.up : ∀ {n : Nat} {ds : List D}, SmA n ds → SmA (n + 1) ds
  | _, _, .nil => .nil
  | _, _, .cons h a => .cons (Sm.up h) (SmA.up a)
end
theorem all_true (n : Nat) : ((List.range n).all fun _ => true) = true := by simp
end Tp

namespace Tp
open PySem L2
/-! ### ghosts -/
section
variable {K : PySem.W.Frag} {Hh Hh' H H' : Hp}
theorem ItA.len {vs : List V} {is : List It} (h : ItA K Hh vs is) : vs.length = is.length := by
  induction h with
  | nil => rfl
  | cons _ _ ih => exact congrArg (· + 1) ih
theorem ItA.das {vs : List V} : ∀ {ds : List D}, ItA K Hh vs (ds.map It.da) → RpA K Hh vs ds := by
  induction vs with
  | nil => intro ds h; cases ds with
    | nil => exact .nil
    | cons d ds => cases h
  | cons v vs ih => intro ds h; cases ds with
    | nil => cases h
    | cons d ds => cases h with
      | cons a b => exact .cons a (ih b)
theorem RpA.its {vs : List V} : ∀ {ds : List D}, RpA K Hh vs ds → ItA K Hh vs (ds.map It.da) := by
  induction vs with
  | nil => intro ds h; cases h; exact .nil
  | cons v vs ih => intro ds h; cases h with
    | cons a b => exact .cons a (ih b)
theorem ItA.get {vs : List V} {is : List It} {i : Nat} {t : It} (h : ItA K Hh vs is) (e : is[i]? = some t) : ∃ v, vs[i]? = some v ∧ ItOk K Hh v t := by
  induction h generalizing i with
  | nil => simp at e
  | cons a b ih => cases i with
    | zero => simp at e; subst e; exact ⟨_, rfl, a⟩
    | succ i => simpa using ih (i := i) (by simpa using e)
theorem ItA.app {vs ws : List V} {is js : List It} (h : ItA K Hh vs is) (g : ItA K Hh ws js) : ItA K Hh (vs ++ ws) (is ++ js) := by
  induction h with
  | nil => exact g
  | cons a b ih => exact .cons a ih
theorem ItA.erase {vs : List V} {is : List It} (n : Nat) (h : ItA K Hh vs is) : ItA K Hh (vs.eraseIdx n) (is.eraseIdx n) := by
  induction h generalizing n with
  | nil => exact .nil
  | cons a b ih => cases n with
    | zero => exact b
    | succ n => exact .cons a (ih n)
theorem ItK.lookup {vs : List (Str × V)} {is : List (Str × It)} {f : Str} {t : It} (h : ItK K Hh vs is) (e : is.lookup f = some t) : ∃ v, vs.lookup f = some v ∧ ItOk K Hh v t := by
  induction h with
  | nil => simp at e
  | @cons k v vs i is a b ih =>
    rw [List.lookup_cons] at e ⊢
    cases hk : f == k with
    | true => rw [hk] at e; cases e; exact ⟨v, rfl, a⟩
    | false => rw [hk] at e; exact ih e
theorem ItK.none {vs : List (Str × V)} {is : List (Str × It)} {f : Str} (h : ItK K Hh vs is) (e : is.lookup f = Option.none) : vs.lookup f = Option.none := by
  induction h with
  | nil => rfl
  | @cons k v vs i is a b ih =>
    rw [List.lookup_cons] at e ⊢
    cases hk : f == k with
    | true => rw [hk] at e; cases e
    | false => rw [hk] at e; exact ih e
theorem ItK.len {κ : Type} {vs : List (κ × V)} {is : List (κ × It)} (h : ItK K Hh vs is) : vs.length = is.length := by
  induction h with
  | nil => rfl
  | cons _ _ ih => exact congrArg (· + 1) ih
/-- a field stored -/
def putI' (f : Str) (t : It) : List (Str × It) → List (Str × It)
  | [] => [(f, t)]
  | (g, y) :: r => if g = f then (g, t) :: r else (g, y) :: putI' f t r
theorem ItK.put {vs : List (Str × V)} {is : List (Str × It)} {f : Str} {v : V} {t : It} (h : ItK K Hh vs is) (a : ItOk K Hh v t) : ItK K Hh (putF f v vs) (putI' f t is) := by
  induction h with
  | nil => exact .cons a .nil
  | @cons k w vs i is b c ih =>
    unfold putF putI'
    by_cases e : k = f
    · rw [if_pos e, if_pos e]; exact .cons a c
    · rw [if_neg e, if_neg e]; exact .cons b ih
theorem lookup_at {α : Type} : ∀ {fs : List (Str × α)} {k : Nat} {f : Str} {v : α} {ks : List Str}, fs.map (·.1) = ks → fs[k]? = some (f, v) → (ks.take k).contains f = false → fs.lookup f = some v
  | [], _, _, _, _, _, h, _ => by simp at h
  | (g, y) :: fs, 0, f, v, ks, hk, h, _ => by
    simp at h
    obtain ⟨h1, h2⟩ := h
    subst h1 h2
    rw [List.lookup_cons, beq_self_eq_true]
  | (g, y) :: fs, k + 1, f, v, ks, hk, h, hn => by
    subst hk
    have hn : (g :: (fs.map (·.1)).take k).contains f = false := hn
    rw [List.contains_cons] at hn
    have hn := (Bool.or_eq_false_iff.mp hn)
    rw [List.lookup_cons, hn.1]
    exact lookup_at (k := k) rfl (by simpa using h) hn.2
theorem lookup_no {α : Type} : ∀ {fs : List (Str × α)} {f : Str} {ks : List Str}, fs.map (·.1) = ks → ks.contains f = false → fs.lookup f = none
  | [], _, _, _, _ => rfl
  | (g, y) :: fs, f, ks, hk, hn => by
    subst hk
    have hn : (g :: fs.map (·.1)).contains f = false := hn
    rw [List.contains_cons] at hn
    have hn := (Bool.or_eq_false_iff.mp hn)
    rw [List.lookup_cons, hn.1]
    exact lookup_no rfl hn.2
theorem put_at : ∀ {fs : List (Str × It)} {k : Nat} {f : Str} {v t : It} {ks : List Str}, fs.map (·.1) = ks → fs[k]? = some (f, v) → (ks.take k).contains f = false → putI' f t fs = fs.set k (f, t)
  | [], _, _, _, _, _, _, h, _ => by simp at h
  | (g, y) :: fs, 0, f, v, t, ks, hk, h, _ => by
    simp at h
    obtain ⟨h1, h2⟩ := h
    subst h1 h2
    unfold putI'
    rw [if_pos rfl]
    rfl
  | (g, y) :: fs, k + 1, f, v, t, ks, hk, h, hn => by
    subst hk
    have hn : (g :: (fs.map (·.1)).take k).contains f = false := hn
    rw [List.contains_cons] at hn
    have hn := (Bool.or_eq_false_iff.mp hn)
    have ne : ¬ g = f := fun e => by rw [e, beq_self_eq_true] at hn; exact absurd hn.1 (by decide)
    unfold putI'
    rw [if_neg ne, put_at (k := k) (v := v) rfl (by simpa using h) hn.2]
    rfl
theorem put_new {t : It} : ∀ {fs : List (Str × It)} {f : Str} {ks : List Str}, fs.map (·.1) = ks → ks.contains f = false → putI' f t fs = fs ++ [(f, t)]
  | [], _, _, _, _ => rfl
  | (g, y) :: fs, f, ks, hk, hn => by
    subst hk
    have hn : (g :: fs.map (·.1)).contains f = false := hn
    rw [List.contains_cons] at hn
    have hn := (Bool.or_eq_false_iff.mp hn)
    have ne : ¬ g = f := fun e => by rw [e, beq_self_eq_true] at hn; exact absurd hn.1 (by decide)
    unfold putI'
    rw [if_neg ne, put_new (fs := fs) rfl hn.2]
    rfl
theorem GOk.get : ∀ {gl : List (Addr × Nd)} {j : Nat} {a : Addr} {n : Nd}, GOk K Hh H gl → gl[j]? = some (a, n) → NdOk K Hh H a n
  | [], _, _, _, _, h => by simp at h
  | (b, m) :: g, 0, a, n, x, h => by simp at h; obtain ⟨h1, h2⟩ := h; subst h1 h2; exact x.1
  | (b, m) :: g, j + 1, a, n, x, h => GOk.get (j := j) x.2 (by simpa using h)
def own1 (a : Addr) : Nd → List Addr
  | .ob _ dx _ => [a, dx]
  | _ => [a]
theorem gown_cons (a : Addr) (n : Nd) (g : List (Addr × Nd)) : gown ((a, n) :: g) = own1 a n ++ gown g := by
  cases n <;> rfl
theorem gown_app : ∀ (g h : List (Addr × Nd)), gown (g ++ h) = gown g ++ gown h
  | [], h => rfl
  | (a, n) :: g, h => by
    rw [List.cons_append, gown_cons, gown_cons, gown_app g h, List.append_assoc]
theorem gown_at : ∀ {gl : List (Addr × Nd)} {j : Nat} {a : Addr} {n : Nd}, gl[j]? = some (a, n) → ∀ p ∈ own1 a n, p ∈ gown gl
  | [], _, _, _, h => by simp at h
  | (b, m) :: g, 0, a, n, h => by
    simp at h; obtain ⟨h1, h2⟩ := h; subst h1 h2
    intro p hp
    rw [gown_cons]; exact List.mem_append_left _ hp
  | (b, m) :: g, j + 1, a, n, h => fun p hp => by
    rw [gown_cons]; exact List.mem_append_right _ (gown_at (j := j) (by simpa using h) p hp)
theorem gown_set {n n' : Nd} {a : Addr} (e : own1 a n' = own1 a n) : ∀ {gl : List (Addr × Nd)} {j : Nat}, gl[j]? = some (a, n) → gown (gl.set j (a, n')) = gown gl
  | [], _, h => by simp at h
  | (b, m) :: g, 0, h => by
    simp at h; obtain ⟨h1, h2⟩ := h; subst h1 h2
    show gown ((b, n') :: g) = _
    rw [gown_cons, gown_cons, e]
  | (b, m) :: g, j + 1, h => by
    show gown ((b, m) :: g.set j (a, n')) = _
    rw [gown_cons, gown_cons, gown_set e (j := j) (by simpa using h)]
theorem own1_head (a : Addr) (n : Nd) : a ∈ own1 a n := by cases n <;> exact List.mem_cons_self
/-- an owned object changes, at a -/
theorem GOk.set {n n' : Nd} {a : Addr} (hh : Same Hh Hh') (hu : ∀ b, b ≠ a → H' b = H b) (e : own1 a n' = own1 a n) (hn : NdOk K Hh' H' a n') : ∀ {gl : List (Addr × Nd)} {j : Nat}, (gown gl).Nodup → GOk K Hh H gl → gl[j]? = some (a, n) → GOk K Hh' H' (gl.set j (a, n'))
  | [], _, _, _, h => by simp at h
  | (b, m) :: g, 0, nd, x, h => by
    simp at h; obtain ⟨h1, h2⟩ := h; subst h1 h2
    rw [gown_cons] at nd
    refine ⟨hn, GOk.mono hh (fun p hp => hu p fun z => ?_) x.2⟩
    exact (List.nodup_append.mp nd).2.2 b (own1_head b m) p hp z.symm
  | (b, m) :: g, j + 1, nd, x, h => by
    rw [gown_cons] at nd
    have hj : g[j]? = some (a, n) := by simpa using h
    have ha : a ∈ gown g := gown_at hj a (own1_head a n)
    have ih := GOk.set hh hu e hn (gl := g) (j := j) (List.nodup_append.mp nd).2.1 x.2 hj
    have hb : GOk K Hh H [(b, m)] := ⟨x.1, trivial⟩
    have hb' : GOk K Hh' H' [(b, m)] := GOk.mono hh (fun p hp => hu p fun z => by
      have hp' : p ∈ own1 b m := by rw [gown_cons] at hp; simpa [gown] using hp
      exact (List.nodup_append.mp nd).2.2 p hp' a ha z) hb
    exact ⟨hb'.1, ih⟩
theorem GOk.app : ∀ {g h : List (Addr × Nd)}, GOk K Hh H g → GOk K Hh H h → GOk K Hh H (g ++ h)
  | [], _, _, b => b
  | _ :: _, _, a, b => ⟨a.1, GOk.app a.2 b⟩
end
/-- the ghosts change -/
theorem SOk.gset {K : PySem.W.Frag} {B : Bx} {r : List Sl} {H H' : Hp} {σ : St} {iG : Nat} {gl gl' : List (Addr × Nd)} (S : SOk K B r H σ) (hG : r[iG]? = some (.gs gl)) (h1 : ∀ a o, H a = some o → a ∉ gown gl → Ext1 o (H' a)) (h2 : (gown gl').Nodup) (h3 : ∀ p ∈ gown gl', p ∈ gown gl ∨ H p = none)
    (h4 : Same (hid B r H) (hid B (r.set iG (.gs gl')) H') → GOk K (hid B (r.set iG (.gs gl')) H') H' gl') : SOk K B (r.set iG (.gs gl')) H' σ := by
  have inG : ∀ p ∈ gown gl, p ∈ own r := fun p hp => mem_own hG hp
  have sub : ∀ p ∈ own (r.set iG (.gs gl')), p ∈ own r ∨ H p = none := fun p hp => (own_set_mem hp).elim (fun z => (h3 p z).elim (fun y => .inl (inG p y)) .inr) .inl
  have hh : Same (hid B r H) (hid B (r.set iG (.gs gl')) H') := fun a u e => by
    have e : hide H (own r ++ B.ps) a = some u := e
    show Ext1 u (hide H' (own (r.set iG (.gs gl')) ++ B.ps) a)
    by_cases ha : a ∈ own r ++ B.ps
    · rw [hide_in ha] at e; cases e
    · rw [hide_out ha] at e
      have na : a ∉ own r := fun z => ha (List.mem_append_left _ z)
      rw [hide_out fun z => (List.mem_append.mp z).elim (fun y => (sub a y).elim na fun w => by rw [w] at e; cases e) fun y => ha (List.mem_append_right _ y)]
      exact h1 a u e fun z => na (inG a z)
  refine ⟨fun a o e => (S.ex a o e).trans fun u eu => h1 a u eu fun z => ?_, S.old, fun p hp => ?_, ?_, by rw [List.length_set]; exact S.len, fun j t e => ?_, fun t ht => ?_, GOk.mono hh (fun q hq => ?_) S.gr, S.gp⟩
  · rw [S.new a (inG a z)] at e; cases e
  · rcases sub p hp with z | z
    · exact S.new p z
    · cases e0 : B.H0 p with
      | none => rfl
      | some u => have := S.ex p u e0; rw [z] at this; exact this.no.elim
  · -- nodup: the other slots, the new ghosts
    have key : ∀ {q : List Sl} {i : Nat}, q[i]? = some (.gs gl) → (own q).Nodup → (∀ p ∈ own q, p ∈ own r) → (own (q.set i (.gs gl'))).Nodup := by
      intro q
      induction q with
      | nil => intro i h; simp at h
      | cons a q ih =>
        intro i h nd hin
        cases i with
        | zero =>
          simp at h; subst h
          show (gown gl' ++ own q).Nodup
          have nd : (gown gl ++ own q).Nodup := nd
          obtain ⟨n1, n2, n3⟩ := List.nodup_append.mp nd
          refine List.nodup_append.mpr ⟨h2, n2, fun x hx y hy e => ?_⟩
          subst e
          rcases h3 x hx with z | z
          · exact n3 x z x hy rfl
          · obtain ⟨u, eu, nt⟩ := S.there (hin x (List.mem_append_right _ hy))
            rw [z] at eu; cases eu
        | succ i =>
          have nd : (ownOf a ++ own q).Nodup := nd
          obtain ⟨n1, n2, n3⟩ := List.nodup_append.mp nd
          have hi : q[i]? = some (.gs gl) := by simpa using h
          refine List.nodup_append.mpr ⟨n1, ih hi n2 (fun p hp => hin p (List.mem_append_right _ hp)), fun x hx y hy e => ?_⟩
          subst e
          rcases own_set_mem hy with z | z
          · rcases h3 x z with w | w
            · exact n3 x hx x (mem_own hi w) rfl
            · obtain ⟨u, eu, nt⟩ := S.there (hin x (List.mem_append_left _ hx))
              rw [w] at eu; cases eu
          · exact n3 x hx x z rfl
    exact key hG S.nd fun p hp => hp
  · by_cases hj : iG = j
    · subst hj
      have hi : iG < r.length := (List.getElem?_eq_some_iff.mp hG).1
      rw [List.getElem?_set_self hi] at e
      cases e
      exact h4 hh
    · rw [List.getElem?_set_ne hj] at e
      refine (S.sl j t e).mono hh fun q hq => ?_
      obtain ⟨u, eu, nt⟩ := (S.sl j t e).there hq
      rw [eu]
      refine (h1 q u eu fun z => hj ?_).nt nt
      exact own_apart S.nd hG e z hq
  · refine (S.tb t ht).ext fun o eo => h1 t o eo fun z => ?_
    obtain ⟨u, eu, nt⟩ := S.there (inG t z)
    exact (S.tb t ht).ne eu nt rfl
  · obtain ⟨u, eu, nt⟩ := GOk.there S.gr hq
    rw [eu]
    exact (h1 q u eu fun z => S.grn hq (S.new q (inG q z))).nt nt
theorem SOk.ghosts {K : PySem.W.Frag} {B : Bx} {r : List Sl} {H : Hp} {σ : St} {iG : Nat} {gl : List (Addr × Nd)} (S : SOk K B r H σ) (hG : r[iG]? = some (.gs gl)) : GOk K (hid B r H) H gl ∧ (gown gl).Nodup := by
  refine ⟨S.sl iG _ hG, ?_⟩
  have key : ∀ {q : List Sl} {i : Nat}, q[i]? = some (.gs gl) → (own q).Nodup → (gown gl).Nodup := by
    intro q
    induction q with
    | nil => intro i h; simp at h
    | cons a q ih =>
      intro i h nd
      have nd : (ownOf a ++ own q).Nodup := nd
      obtain ⟨n1, n2, n3⟩ := List.nodup_append.mp nd
      cases i with
      | zero => simp at h; subst h; exact n1
      | succ i => exact ih (i := i) (by simpa using h) n2
  exact key hG S.nd
end Tp

namespace Tp
open PySem L2
/-! ### objects: attributes -/
section
variable {X : Cx} {B : Bx} {W : WX} {P : Po} {r q : List Sl} {e a b c o tg : Expr} {es : List Expr} {rest body orelse : List Stmt} {d : D} {ds : List D} {pos pos' p1 : Pos} {k kk : Nat} {x f : Str} {gl : List (Addr × Nd)} {p C dx l : Addr} {fs fs' : List (Str × It)} {t : It}
def ER (X : Cx) (B : Bx) (e : Expr) (r : List Sl) (a : Addr) : Prop := ∃ te, PE X e te ∧ ∀ H σ, SOk X.K B r H σ → ∀ Q : VK, (∀ H', Same H H' → Q (.ref a) H') → te σ H Q
theorem erV (i : Nat) {a : Addr} (h : r[i]? = some (.rf a)) (hN : X.N[i]? = some x := by rfl) (hv : Vis X.env.scope x := by first | exact Or.inl rfl | exact Or.inr (Or.inl rfl) | exact Or.inr (Or.inr rfl)) (hd : (x == ("__debug__" : Str)) = false := by decide) (hcd : (x == ("__classdict__" : Str)) = false := by decide) : ER X B (.Name x pos) r a :=
  ⟨_, pe_var hN hv hd hcd, fun H σ S Q q => ⟨_, S.sl i _ h, q H (Same.refl H)⟩⟩
/-- the field f of an object of the class at C -/
structure FdAt (K : PySem.W.Frag) (C : Addr) (fs : List (Str × It)) (f : Str) (t : It) : Prop where
  look : fs.lookup f = some t
  cl : Cls K C
  na : NoAttr K C f
theorem evFld (iG j : Nat) (he : ER X B e r p) (hG : r[iG]? = some (.gs gl)) (hj : gl[j]? = some (p, .ob C dx fs)) (hf : FdAt X.K C fs f (.da d)) (hb : attributeBase e f X.env (eval e X.env) = eval e X.env := by rfl) : EV X B (.Attribute e f pos) r d := by
  obtain ⟨te, pp, kk⟩ := he
  refine ⟨_, pe_fld pp hb, fun H σ S Q q => kk H σ S _ fun H1 s1 => ?_⟩
  obtain ⟨vs, e1, e2, y⟩ := ((S.mono s1).ghosts hG).1.get hj
  obtain ⟨v, l1, rv⟩ := y.lookup hf.look
  exact ⟨p, C, dx, vs, v, rfl, e1, hf.cl, hf.na, l1, q v H1 s1 rv⟩
theorem erFld (iG j : Nat) (he : ER X B e r p) (hG : r[iG]? = some (.gs gl)) (hj : gl[j]? = some (p, .ob C dx fs)) (hf : FdAt X.K C fs f (.rf l)) (hb : attributeBase e f X.env (eval e X.env) = eval e X.env := by rfl) : ER X B (.Attribute e f pos) r l := by
  obtain ⟨te, pp, kk⟩ := he
  refine ⟨_, pe_fld pp hb, fun H σ S Q q => kk H σ S _ fun H1 s1 => ?_⟩
  obtain ⟨vs, e1, e2, y⟩ := ((S.mono s1).ghosts hG).1.get hj
  obtain ⟨v, l1, rv⟩ := y.lookup hf.look
  cases rv
  exact ⟨p, C, dx, vs, _, rfl, e1, hf.cl, hf.na, l1, q H1 s1⟩
/-- a list that is a ghost -/
theorem ER.list (iG m : Nat) (he : ER X B e r l) (hG : r[iG]? = some (.gs gl)) (hj : gl[m]? = some (l, Nd.ls (ds.map It.da))) : ES X B e r false ds := by
  obtain ⟨te, pp, kk⟩ := he
  refine ⟨te, pp, fun H σ S Q q => kk H σ S _ fun H1 s1 => ?_⟩
  obtain ⟨vs, e1, y⟩ := ((S.mono s1).ghosts hG).1.get hj
  exact q l vs H1 s1 (SqL.of e1) y.das
theorem SOk.fput {iG j : Nat} {K : PySem.W.Frag} {H : Hp} {σ : St} {vs : List (Str × V)} {y : V} (S : SOk K B r H σ) (hG : r[iG]? = some (.gs gl)) (hj : gl[j]? = some (p, .ob C dx fs)) (e : H p = some (.ins C dx vs)) (iv : ItOk K (hid B r H) y t) :
    SOk K B (r.set iG (.gs (gl.set j (p, .ob C dx (putI' f t fs))))) (upd H p (.ins C dx (putF f y vs))) σ := by
  obtain ⟨G, nd⟩ := S.ghosts hG
  have hs : gown (gl.set j (p, .ob C dx (putI' f t fs))) = gown gl := gown_set (n := .ob C dx fs) (n' := .ob C dx (putI' f t fs)) rfl hj
  have hp : p ∈ gown gl := gown_at hj p List.mem_cons_self
  obtain ⟨vs', e', e2, y'⟩ := G.get hj
  rw [e] at e'
  cases e'
  have ne : dx ≠ p := by
    have key : ∀ {g : List (Addr × Nd)} {i : Nat}, g[i]? = some (p, .ob C dx fs) → (gown g).Nodup → dx ≠ p := by
      intro g
      induction g with
      | nil => intro i h; simp at h
      | cons a g ih =>
        intro i h nd
        obtain ⟨a, n⟩ := a
        rw [gown_cons] at nd
        cases i with
        | zero =>
          simp at h
          obtain ⟨h1, h2⟩ := h
          subst h1 h2
          have := (List.nodup_cons.mp (List.nodup_append.mp nd).1).1
          intro z
          exact this (z ▸ List.mem_cons_self)
        | succ i => exact ih (i := i) (by simpa using h) (List.nodup_append.mp nd).2.1
    exact key hj nd
  refine S.gset hG (fun a o ea ha => .inl ((upd_ne fun z => ha (by rw [z]; exact hp)).trans ea)) (by rw [hs]; exact nd) (fun q hq => .inl (hs ▸ hq)) fun hh => ?_
  exact GOk.set (n := .ob C dx fs) (n' := .ob C dx (putI' f t fs)) hh (fun b hb => upd_ne hb) rfl ⟨_, upd_same, (upd_ne ne).trans e2, (y'.mono hh).put (iv.mono hh)⟩ nd G hj
theorem SOk.gadd {iG : Nat} {K : PySem.W.Frag} {H : Hp} {σ : St} {vs : List V} {is : List It} (S : SOk K B r H σ) (hG : r[iG]? = some (.gs gl)) (hl : H l = none) (iv : ItA K (hid B r H) vs is) :
    SOk K B (r.set iG (.gs (gl ++ [(l, Nd.ls is)]))) (upd H l (.lst vs)) σ := by
  obtain ⟨G, nd⟩ := S.ghosts hG
  have nl : l ∉ gown gl := fun z => by obtain ⟨u, eu, nt⟩ := GOk.there G z; rw [hl] at eu; cases eu
  have hs : gown (gl ++ [(l, Nd.ls is)]) = gown gl ++ [l] := gown_app _ _
  refine S.gset hG (fun a o ea ha => by rw [upd_ne (ne_of_none ea hl)]; exact .inl ea) (by rw [hs]; exact List.nodup_append.mpr ⟨nd, by simp, fun x hx y hy e => nl (by cases List.mem_singleton.mp hy; exact e ▸ hx)⟩) (fun q hq => by
    rw [hs] at hq
    exact (List.mem_append.mp hq).elim .inl fun z => .inr (List.mem_singleton.mp z ▸ hl)) fun hh => ?_
  exact GOk.app (GOk.mono hh (fun q hq => upd_ne fun z => nl (z ▸ hq)) G) ⟨⟨_, upd_same, iv.mono hh⟩, trivial⟩
theorem set_set {α : Type} (l : List α) (i : Nat) (a b : α) : (l.set i a).set i b = l.set i b := List.set_set ..
theorem get_set {i : Nat} {s s' : Sl} (h : r[i]? = some s) : (r.set i s')[i]? = some s' := List.getElem?_set_self (List.getElem?_eq_some_iff.mp h).1
/-- o.f = e, data -/
theorem sv_fld (iG j : Nat) (he : EV X B e r d) (ho : ER X B o r p) (hG : r[iG]? = some (.gs gl)) (hj : gl[j]? = some (p, .ob C dx fs)) (cl : Cls X.K C) (na : NoAttr X.K C f) (hz : fs.length < 1000) (hp : putI' f (.da d) fs = fs') (h : SV X B W rest (r.set iG (.gs (gl.set j (p, .ob C dx fs')))) P) (hs : swapsWith e (some (.Attribute o f pos')) pos.line X.env = pure false := by rfl) :
    SV X B W (.Assign [.Attribute o f pos'] e pos :: rest) r P := fun H σ E S kt => by
  obtain ⟨tv, pv, kv⟩ := he
  obtain ⟨te, pp, kk⟩ := ho
  refine ⟨_, pss_cons (ps_fld pp pv hs) wS_ok, kv H σ S _ fun y H1 s1 ry => kk H1 σ (S.mono s1) _ fun H2 s2 => ?_⟩
  have S2 := (S.mono s1).mono s2
  obtain ⟨vs, e1, e2, z⟩ := (S2.ghosts hG).1.get hj
  refine ⟨p, C, dx, vs, rfl, e1, cl, na, by rw [z.len]; exact hz, ?_⟩
  subst hp
  exact h _ σ E (S2.fput (t := .da d) hG hj e1 (ry.mono (hide_mono s2))) kt
/-- o.f = a new list -/
theorem sv_fldL (iG j : Nat) (he : EN X B e r (fun l => .ol l ds)) (ho : ∀ l, ER X B o (r.set iG (.gs (gl ++ [(l, Nd.ls (ds.map It.da))]))) p) (hG : r[iG]? = some (.gs gl)) (hj : gl[j]? = some (p, .ob C dx fs)) (cl : Cls X.K C) (na : NoAttr X.K C f) (hz : fs.length < 1000) (hp : ∀ l, putI' f (It.rf l) fs = fs' ++ [(f, It.rf l)])
    (h : ∀ l, SV X B W rest (r.set iG (.gs ((gl ++ [(l, Nd.ls (ds.map It.da))]).set j (p, .ob C dx (fs' ++ [(f, It.rf l)]))))) P) (hs : swapsWith e (some (.Attribute o f pos')) pos.line X.env = pure false := by rfl) :
    SV X B W (.Assign [.Attribute o f pos'] e pos :: rest) r P := fun H σ E S kt => by
  obtain ⟨tv, pv, kv⟩ := he
  -- the object's reading, the same for all places of the new list
  let te : TE := fun σ H Q => ∃ t, PE X o t ∧ t σ H Q
  have pp : PE X o te := wE_ok
  refine ⟨_, pss_cons (ps_fld pp pv hs) wS_ok, kv H σ S _ fun l ob H1 s1 hl _ hv => ?_⟩
  obtain ⟨e0, vs, e1, ra⟩ := hv
  have eo : ob = .lst vs := by
    have : upd H1 l ob l = some (.lst vs) := e1
    rw [upd_same] at this
    exact Option.some.inj this
  subst eo
  have S1 := (S.mono s1).gadd (iG := iG) hG hl (RpA.its ra)
  obtain ⟨t0, p0, k0⟩ := ho l
  refine ⟨t0, p0, k0 _ σ S1 _ fun H2 s2 => ?_⟩
  have S2 := S1.mono s2
  have hG2 := get_set (s' := .gs (gl ++ [(l, Nd.ls (ds.map It.da))])) hG
  have hj2 : (gl ++ [(l, Nd.ls (ds.map It.da))])[j]? = some (p, .ob C dx fs) := by
    rw [List.getElem?_append_left (List.getElem?_eq_some_iff.mp hj).1]; exact hj
  obtain ⟨ws, e3, e4, z⟩ := (S2.ghosts hG2).1.get hj2
  refine ⟨p, C, dx, ws, rfl, e3, cl, na, by rw [z.len]; exact hz, ?_⟩
  have S3 := S2.fput (f := f) (t := It.rf l) (y := .ref l) hG2 hj2 e3 rfl
  rw [set_set, hp l] at S3
  exact h l _ σ E S3 kt
/-- o.f += e, o.f -= e -/
theorem sv_fldA (iG j : Nat) {i0 i1 : Int} (he : EV X B e r (.int i1)) (ho : ER X B o r p) (hG : r[iG]? = some (.gs gl)) (hj : gl[j]? = some (p, .ob C dx fs)) (hf : FdAt X.K C fs f (.da (.int i0))) (hz : fs.length < 1000) (hp : putI' f (.da (.int (i0 + i1))) fs = fs') (h : SV X B W rest (r.set iG (.gs (gl.set j (p, .ob C dx fs')))) P) :
    SV X B W (.AugAssign (.Attribute o f pos') .Add e pos :: rest) r P := fun H σ E S kt => by
  obtain ⟨tv, pv, kv⟩ := he
  obtain ⟨te, pp, kk⟩ := ho
  refine ⟨_, pss_cons (ps_fldaug pp pv L2.in_add) wS_ok, kk H σ S _ fun H1 s1 => ?_⟩
  obtain ⟨vs, e1, e2, z⟩ := ((S.mono s1).ghosts hG).1.get hj
  obtain ⟨v, l1, rv⟩ := z.lookup hf.look
  cases rv
  refine ⟨p, C, dx, vs, _, rfl, e1, hf.cl, hf.na, l1, kv H1 σ (S.mono s1) _ fun y H2 s2 ry => ?_⟩
  cases ry
  have S2 := (S.mono s1).mono s2
  refine ⟨i0, i1, rfl, rfl, dx, vs, s2.k e1, by rw [z.len]; exact hz, ?_⟩
  subst hp
  exact h _ σ E (S2.fput (t := .da (.int (i0 + i1))) hG hj (s2.k e1) (.int _)) kt
theorem sv_fldS (iG j : Nat) {i0 i1 : Int} (he : EV X B e r (.int i1)) (ho : ER X B o r p) (hG : r[iG]? = some (.gs gl)) (hj : gl[j]? = some (p, .ob C dx fs)) (hf : FdAt X.K C fs f (.da (.int i0))) (hz : fs.length < 1000) (hp : putI' f (.da (.int (i0 - i1))) fs = fs') (h : SV X B W rest (r.set iG (.gs (gl.set j (p, .ob C dx fs')))) P) :
    SV X B W (.AugAssign (.Attribute o f pos') .Sub e pos :: rest) r P := fun H σ E S kt => by
  obtain ⟨tv, pv, kv⟩ := he
  obtain ⟨te, pp, kk⟩ := ho
  refine ⟨_, pss_cons (ps_fldaug pp pv L2.in_sub) wS_ok, kk H σ S _ fun H1 s1 => ?_⟩
  obtain ⟨vs, e1, e2, z⟩ := ((S.mono s1).ghosts hG).1.get hj
  obtain ⟨v, l1, rv⟩ := z.lookup hf.look
  cases rv
  refine ⟨p, C, dx, vs, _, rfl, e1, hf.cl, hf.na, l1, kv H1 σ (S.mono s1) _ fun y H2 s2 ry => ?_⟩
  cases ry
  have S2 := (S.mono s1).mono s2
  refine ⟨i0, i1, rfl, rfl, dx, vs, s2.k e1, by rw [z.len]; exact hz, ?_⟩
  subst hp
  exact h _ σ E (S2.fput (t := .da (.int (i0 - i1))) hG hj (s2.k e1) (.int _)) kt
/-- a ghost list turns -/
theorem SOk.lturn {iG m : Nat} {K : PySem.W.Frag} {H : Hp} {σ : St} {ws : List V} {is js : List It} (S : SOk K B r H σ) (hG : r[iG]? = some (.gs gl)) (hj : gl[m]? = some (l, Nd.ls is)) (iv : ItA K (hid B r H) ws js) :
    SOk K B (r.set iG (.gs (gl.set m (l, Nd.ls js)))) (upd H l (.lst ws)) σ := by
  obtain ⟨G, nd⟩ := S.ghosts hG
  have hs : gown (gl.set m (l, Nd.ls js)) = gown gl := gown_set (n := .ls is) (n' := .ls js) rfl hj
  have hp : l ∈ gown gl := gown_at hj l (own1_head _ _)
  refine S.gset hG (fun a o ea ha => .inl ((upd_ne fun z => ha (by rw [z]; exact hp)).trans ea)) (by rw [hs]; exact nd) (fun q hq => .inl (hs ▸ hq)) fun hh => ?_
  exact GOk.set (n := .ls is) (n' := .ls js) hh (fun b hb => upd_ne hb) rfl ⟨_, upd_same, iv.mono hh⟩ nd G hj
/-- o.append(e), o a ghost list -/
theorem sv_appG (iG m : Nat) {pc cp : Pos} (ho : ER X B o r l) (hG : r[iG]? = some (.gs gl)) (hj : gl[m]? = some (l, Nd.ls (ds.map It.da))) (he : EV X B e r d) (hl : ds.length < 100000) (h : SV X B W rest (r.set iG (.gs (gl.set m (l, Nd.ls ((ds ++ [d]).map It.da))))) P)
    (hs : swapsWith (.Call (.Attribute o "append" pc) [e] [] cp) none pos.line X.env = pure false := by rfl) (hline : (pc.endLine == cp.line) = true := by rfl) (hst : NSt X e := by exact fun _ => rfl) (hbase : attributeBase o "append" X.env (eval o X.env) = eval o X.env := by rfl) :
    SV X B W (.Expr (.Call (.Attribute o "append" pc) [e] [] cp) pos :: rest) r P := fun H σ E S kt => by
  obtain ⟨te, pp, q⟩ := he
  obtain ⟨to, po, ko⟩ := ho
  refine ⟨_, pss_cons (ps_expr (pe_bm PySem.F.plainAttrs_list PySem.F.slot_list_append PySem.F.type_list_append mt_append po (pa_cons pp pa_nil (hst _)) (hbase := hbase) (hfew := by rw [hst]; rfl) (hline := hline) (hs := hst _) (hplain := by rfl)) hs) wS_ok, ko H σ S _ fun H1 s1 => ?_⟩
  obtain ⟨vs, y, z⟩ := ((S.mono s1).ghosts hG).1.get hj
  refine ⟨.inl ⟨rfl, _, SqL.of y⟩, q H1 σ (S.mono s1) _ fun v H2 s2 u => ?_⟩
  have y1 : H2 l = some (.lst vs) := s2.k y
  have hln : vs.length = ds.length := by rw [z.len, List.length_map]
  refine ⟨l, vs, v, rfl, rfl, y1, Nat.lt_of_lt_of_le (by rw [hln]; exact hl) (by decide : 100000 ≤ sizeLine), ?_⟩
  refine h _ σ E (((S.mono s1).mono s2).lturn hG hj ?_) kt
  rw [List.map_append]
  exact (z.mono (hide_mono s2)).app (.cons u .nil)

theorem erase_map {α β : Type} (f : α → β) : ∀ (l : List α) (n : Nat), (l.eraseIdx n).map f = (l.map f).eraseIdx n
  | [], _ => rfl
  | a :: l, 0 => rfl
  | a :: l, n + 1 => congrArg (f a :: ·) (erase_map f l n)
theorem sv_delG (iG m : Nat) {i : Int} {n : Nat} (ho : ER X B o r l) (hG : r[iG]? = some (.gs gl)) (hj : gl[m]? = some (l, Nd.ls (ds.map It.da))) (he : EV X B e r (.int i)) (hi : seqIndex? i ds.length = some n) (hb : -(2 ^ 63) ≤ i ∧ i < 2 ^ 63) (h : SV X B W rest (r.set iG (.gs (gl.set m (l, Nd.ls ((ds.eraseIdx n).map It.da))))) P) :
    SV X B W (.Delete [.Subscript o e pos'] pos :: rest) r P := fun H σ E S kt => by
  obtain ⟨te, pp, q⟩ := he
  obtain ⟨to, po, ko⟩ := ho
  refine ⟨_, pss_cons (ps_delL po pp) wS_ok, ko H σ S _ fun H1 s1 => ?_⟩
  obtain ⟨vs, y, z⟩ := ((S.mono s1).ghosts hG).1.get hj
  refine q H1 σ (S.mono s1) _ fun v H2 s2 u => ?_
  cases u
  have hln : vs.length = ds.length := by rw [z.len, List.length_map]
  refine ⟨l, vs, i, n, rfl, rfl, s2.k y, hb.1, hb.2, by rw [hln]; exact hi, ?_⟩
  refine h _ σ E (((S.mono s1).mono s2).lturn hG hj ?_) kt
  have e : (ds.eraseIdx n).map It.da = (ds.map It.da).eraseIdx n := erase_map It.da ds n
  rw [e]
  exact (z.mono (hide_mono s2)).erase n
end
end Tp

namespace Tp
open PySem L2
/-! ### objects: promises, calls -/
/-- a promise: of the arguments and the ghosts; what is wanted of the result and the ghosts behind it; of an exception -/
abbrev CtO := List It → List (Addr × Nd) → (Rs → List (Addr × Nd) → Prop) → (Addr → List (Addr × Nd) → Prop) → Prop
structure GNew (gl gl' : List (Addr × Nd)) (H H' : Hp) : Prop where
  k : ∀ a o, H a = some o → a ∉ gown gl → Ext1 o (H' a)
  nd : (gown gl').Nodup
  nw : ∀ p ∈ gown gl', p ∈ gown gl ∨ H p = none
def RsO (K : PySem.W.Frag) (Hh : Hp) (v : V) : Rs → Prop
  | .da d => Rp K Hh v d
  | .rf a => v = .ref a
  | _ => False
def isO : Rs → Bool
  | .da _ => true
  | .rf _ => true
  | _ => false
def spO (T : List Addr) (K : PySem.W.Frag) (c : CtO) : Sp := fun vs H Q E => ∃ ps gl its Po Ex, (∀ t ∈ T, TabG H t) ∧ (∀ p ∈ ps, H p ≠ none) ∧ (gown gl).Nodup ∧ (∀ p ∈ gown gl, p ∉ ps) ∧ GOk K (hide H (gown gl ++ ps)) H gl ∧ ItA K (hide H (gown gl ++ ps)) vs its ∧ c its gl Po Ex ∧
  (∀ s v gl' H', GNew gl gl' H H' → GOk K (hide H' (gown gl' ++ ps)) H' gl' → RsO K (hide H' (gown gl' ++ ps)) v s → Po s gl' → Q v H') ∧ ∀ C gl' H', GNew gl gl' H H' → GOk K (hide H' (gown gl' ++ ps)) H' gl' → Ex C gl' → E (.ref C) none H'
def itS : It → Sl
  | .da d => .im d
  | .rf a => .rf a
def iniO (N : List Str) (its : List It) (gl : List (Addr × Nd)) : List Sl := its.map itS ++ (List.replicate (N.length - its.length - 1) .no ++ [.gs gl])
theorem own_append : ∀ (a b : List Sl), own (a ++ b) = own a ++ own b
  | [], b => rfl
  | s :: a, b => by
    show ownOf s ++ own (a ++ b) = ownOf s ++ own a ++ own b
    rw [own_append a b, List.append_assoc]
theorem own_its : ∀ (its : List It), own (its.map itS) = []
  | [] => rfl
  | .da _ :: r => own_its r
  | .rf _ :: r => own_its r
theorem own_no : ∀ (n : Nat), own (List.replicate n Sl.no) = []
  | 0 => rfl
  | n + 1 => own_no n
theorem own_iniO {N : List Str} {its : List It} {gl : List (Addr × Nd)} : own (iniO N its gl) = gown gl := by
  unfold iniO
  rw [own_append, own_its, own_append, own_no]
  show [] ++ ([] ++ (gown gl ++ [])) = gown gl
  rw [List.append_nil]
  rfl
theorem sok_iniO {T : List Addr} {K : PySem.W.Frag} {H : Hp} {ps : List Addr} {gl : List (Addr × Nd)} {vs : List V} {its : List It} {N : List Str} (tb : ∀ t ∈ T, TabG H t) (hp : ∀ p ∈ ps, H p ≠ none) (nd : (gown gl).Nodup) (ap : ∀ p ∈ gown gl, p ∉ ps) (G : GOk K (hide H (gown gl ++ ps)) H gl) (A : ItA K (hide H (gown gl ++ ps)) vs its) (hl : its.length + 1 ≤ N.length) :
    SOk K ⟨hide H (gown gl), ps, T, []⟩ (iniO N its gl) H (L2.start N vs) := by
  have hlen := A.len
  refine ⟨hide_same, fun p q => ?_, fun p q => ?_, by rw [own_iniO]; exact nd, ?_, fun i s e => ?_, tb, trivial, fun p hp => by cases hp⟩
  · show hide H (gown gl) p ≠ none
    rw [hide_out fun z => ap p z q]; exact hp p q
  · rw [own_iniO] at q
    exact hide_in q
  · unfold L2.start iniO
    simp only [List.length_append, List.length_map, List.length_replicate, List.length_cons, List.length_nil]
    omega
  · show SlOk K (hide H (own (iniO N its gl) ++ ps)) H s _
    rw [own_iniO]
    unfold iniO at e
    unfold L2.start
    by_cases hi : i < its.length
    · rw [List.getElem?_append_left (by simpa using hi), List.getElem?_map] at e
      rw [List.getElem?_append_left (by simpa [hlen] using hi), List.getElem?_map]
      cases e2 : its[i]? with
      | none => rw [e2] at e; cases e
      | some t =>
        rw [e2] at e
        cases e
        obtain ⟨v, h1, h2⟩ := A.get e2
        rw [h1]
        cases t with
        | da d => exact ⟨v, rfl, h2⟩
        | rf a => cases h2; rfl
    · rw [List.getElem?_append_right (by simpa using hi)] at e
      by_cases hj : i - its.length < N.length - its.length - 1
      · rw [List.getElem?_append_left (by simpa using hj)] at e
        have : s = .no := by
          rw [List.getElem?_replicate] at e
          split at e
          · cases e; rfl
          · cases e
        subst this
        trivial
      · rw [List.getElem?_append_right (by simpa using hj)] at e
        have : s = .gs gl := by
          cases hz : i - (List.map itS its).length - (List.replicate (N.length - its.length - 1) Sl.no).length with
          | zero => rw [hz] at e; cases e; rfl
          | succ n => rw [hz] at e; simp at e
        subst this
        exact G
theorem fn_o {P : Program} {w : World} {T : List Addr} {K : PySem.W.Frag} {mg : Str → Option Value} {base : Heap} {x qual : Str} {st : Stmt} {f : Addr} {fd : FuncData} {N ps : List Str} {k : Nat} {c : CtO} (iG : Nat) (F : Fun K x qual st f fd) (S : FnScope N ps (defScope st))
    (hl : ∀ its gl Q E, c its gl Q E → its.length = ps.length) (hN : ps.length + 1 ≤ N.length)
    (body : ∀ (cdv : Value) (A : Around) (outer : List Env) (s : Shared) (H H0 : Hp) (E : XK) (qs : List Addr) (its : List It) (gl : List (Addr × Nd)) (Q : Rs → List (Addr × Nd) → Prop) (Ex : Addr → List (Addr × Nd) → Prop), Go (cxOf (L2.CX P w) P w K mg base N qual (defScope st) f cdv A outer s H E) (fun cls d _ H => E cls d H) k → c its gl Q Ex →
      SV (cxOf (L2.CX P w) P w K mg base N qual (defScope st) f cdv A outer s H E) ⟨H0, qs, T, []⟩ (fun cls d _ H => E cls d H) (defBody st) (iniO N its gl) { nx := fun r => ∃ gl', r[iG]? = some (.gs gl') ∧ Q (.da .none) gl', rt := fun s r => isO s = true ∧ ∃ gl', r[iG]? = some (.gs gl') ∧ Q s gl', ex := fun C r => ∃ gl', r[iG]? = some (.gs gl') ∧ Ex C gl' }) :
    FnOk P w K mg base (L2.CX P w) (k + 1) f fd ps (spO T K c) := by
  refine F.okX S (fun vs H Q E h => ?_) (fun cdv A outer s H vs Q E hr h => ?_)
  · obtain ⟨qs, gl, its, Po, Ex, _, _, _, _, _, A, hc, _⟩ := h
    rw [A.len]
    exact hl _ _ _ _ hc
  · obtain ⟨qs, gl, its, Po, Ex, tb, hp, nd, ap, G, A', hc, k1, k2⟩ := h
    have Go' : Go (cxOf (L2.CX P w) P w K mg base N qual (defScope st) f cdv A outer s H E) (fun cls d _ H => E cls d H) k :=
      ⟨hr, rfl, passes_of rfl, takes_of rfl rfl rfl rfl, S.nd⟩
    have new : ∀ {r : List Sl} {H' : Hp} {σ' : St} {gl' : List (Addr × Nd)}, SOk K ⟨hide H (gown gl), qs, T, []⟩ r H' σ' → r[iG]? = some (.gs gl') → GNew gl gl' H H' ∧ GOk K (hide H' (gown gl' ++ qs)) H' gl' := fun {r H' σ' gl'} S' hG => by
      obtain ⟨G', nd'⟩ := S'.ghosts hG
      refine ⟨⟨fun a o e ha => S'.ex a o (by show hide H (gown gl) a = some o; rw [hide_out ha]; exact e), nd', fun p hp' => ?_⟩, GOk.mono (hide_sub fun p hp' => (List.mem_append.mp hp').elim (fun z => List.mem_append_left _ (mem_own hG z)) fun z => List.mem_append_right _ z) (fun _ _ => rfl) G'⟩
      have h0 := S'.new p (mem_own hG hp')
      by_cases hz : p ∈ gown gl
      · exact .inl hz
      · refine .inr ?_
        have h0 : hide H (gown gl) p = none := h0
        rw [hide_out hz] at h0
        exact h0
    refine ⟨_, wS_ok, body cdv A outer s H (hide H (gown gl)) E qs its gl Po Ex Go' hc H _ _ (sok_iniO tb hp nd ap G A' (by rw [hl _ _ _ _ hc]; exact hN)) ⟨fun r σ' H' S' hq => ?_, fun s v r σ' H' S' y hq => ?_, fun _ _ _ _ z => z.elim, fun _ _ _ _ z => z.elim, fun C r σ' H' S' hx => ?_⟩⟩
    · obtain ⟨gl', hG, hq⟩ := hq
      obtain ⟨n1, n2⟩ := new S' hG
      exact k1 (.da .none) .non gl' H' n1 n2 (show Rp K _ V.non .none from .non) hq
    · obtain ⟨hi, gl', hG, hq⟩ := hq
      obtain ⟨n1, n2⟩ := new S' hG
      refine k1 s v gl' H' n1 n2 ?_ hq
      cases s with
      | da d => exact Rp.mono (hide_sub fun p hp' => (List.mem_append.mp hp').elim (fun z => List.mem_append_left _ (mem_own hG z)) fun z => List.mem_append_right _ z) y
      | rf a => exact y
      | nl _ => cases hi
      | nd _ => cases hi
    · obtain ⟨gl', hG, hq⟩ := hx
      obtain ⟨n1, n2⟩ := new S' hG
      exact k2 C gl' H' n1 n2 hq
section
variable {X : Cx} {CX : CXT} {k : Nat} {f C : Addr} {fd : FuncData} {ps : List Str} {sp : Sp} {E : St → XK} {x m : Str} {p pos apos : Pos} {e o : Expr} {es : List Expr} {ta : TE} {t : TA}
/-- o.m(e, ..), exceptions by the slots -/
def tMethX (C : Addr) (m : Str) (sp : Sp) (E : St → XK) (ta : TE) (t : TA) : TE := fun σ H Q => ta σ H fun x H1 => ∃ a dx fs, x = .ref a ∧ H1 a = some (.ins C dx fs) ∧ fs.lookup m = none ∧ t σ H1 fun vs H2 => sp (x :: vs) H2 Q (E σ)
theorem pe_methX {pl : Sem Bool} (he : PE X o ta) (c : Cls X.K C) (hm : Meth X.K C m f) (F : FnOk X.prog X.w X.K X.mg X.base CX k f fd ps sp) (hr : Room k X.A) (hb : Binds X.K fd ps []) (hx : ∀ σ, PassesAt CX X σ (E σ)) (ha : PA X (e :: es) t)
    (hst : starEach (e :: es) X.env = (false, eval e X.env) :: starEach es X.env := by rfl) (hpl : (backTo pos (starEach es X.env)).any (·.1) = false := by rfl)
    (ht : eval (.Call (.Attribute o m apos) (e :: es) [] pos) X.env = (do
      let ov ← eval o X.env
      standAt apos.atName
      let (f, first) ← holding [ov] (getMethod ov m pl)
      callWith pos f first (backTo pos (starEach (e :: es) X.env)) (backToKw pos (keywordEach [] X.env))) := by rfl) :
    PE X (.Call (.Attribute o m apos) (e :: es) [] pos) (tMethX C m sp E ta t) := by
  refine ⟨fun pins s σ H Q I h => ?_⟩
  refine PySem.W.methodCall_KW (pl := pl) (thn (he.run pins s σ H _ I h) fun u s1 ⟨x, H1, I1, rx, a, dx, fs, ex, ea, l, q⟩ => ?_) ht
  subst ex
  obtain rfl : u = Value.ref a := rx
  refine getmeth_ok I1 ea c hm l ?_
  refine PySem.W.callWith_K (first := [.ref a]) (h₀ := X.base) I.ok.mod.kin hm.kp (thn (ha.run pos pins s1 σ H1 _ I1 q) fun us s2 ⟨vs, H2, I2, r, q2⟩ => ⟨I2.kIn, ?_⟩) hst hpl
  exact run_fnS (us := .ref a :: us) (vs := .ref a :: vs) F hr hb (hx σ) I2 (.cons rfl r) q2
theorem pe_methX0 {pl : Sem Bool} (he : PE X o ta) (c : Cls X.K C) (hm : Meth X.K C m f) (F : FnOk X.prog X.w X.K X.mg X.base CX k f fd ps sp) (hr : Room k X.A) (hb : Binds X.K fd ps []) (hx : ∀ σ, PassesAt CX X σ (E σ))
    (ht : eval (.Call (.Attribute o m apos) [] [] pos) X.env = (do
      let ov ← eval o X.env
      standAt apos.atName
      let (f, first) ← holding [ov] (getMethod ov m pl)
      callWith pos f first (backTo pos (starEach [] X.env)) (backToKw pos (keywordEach [] X.env))) := by rfl) :
    PE X (.Call (.Attribute o m apos) [] [] pos) (tMethX C m sp E ta tNil) := by
  refine ⟨fun pins s σ H Q I h => ?_⟩
  refine PySem.W.methodCall_KW (pl := pl) (thn (he.run pins s σ H _ I h) fun u s1 ⟨x, H1, I1, rx, a, dx, fs, ex, ea, l, q⟩ => ?_) ht
  subst ex
  obtain rfl : u = Value.ref a := rx
  refine getmeth_ok I1 ea c hm l ?_
  exact PySem.W.callWith_K0 (first := [.ref a]) I1.kIn hm.kp (run_fnS (us := [.ref a]) (vs := [.ref a]) F hr hb (hx σ) I1 (.cons rfl .nil) q)
end
/-- the method m of the class at C keeps the promise c -/
def MthO (P : Program) (w : World) (T : List Addr) (K : PySem.W.Frag) (mg : Str → Option Value) (base : Heap) (C : Addr) (m : Str) (k : Nat) (c : CtO) : Prop :=
  ∃ f fd ps, FnOk P w K mg base (L2.CX P w) k f fd ps (spO T K c) ∧ Meth K C m f ∧ Binds K fd ps []
def CalO (P : Program) (w : World) (T : List Addr) (K : PySem.W.Frag) (mg : Str → Option Value) (base : Heap) (x : Str) (k : Nat) (c : CtO) : Prop :=
  ∃ f fd ps, FnOk P w K mg base (L2.CX P w) k f fd ps (spO T K c) ∧ mg x = some (.ref f) ∧ PySem.W.keepIn K (.ref f) = true ∧ Binds K fd ps []
/-- the class called x, at C, is made by an __init__ that keeps c -/
def MakO (P : Program) (w : World) (T : List Addr) (K : PySem.W.Frag) (mg : Str → Option Value) (base : Heap) (x : Str) (C : Addr) (k : Nat) (c : CtO) : Prop :=
  ∃ f fd ps, FnOk P w K mg base (L2.CX P w) k f fd ps (spO T K c) ∧ Mk K C f ∧ mg x = some (.ref C) ∧ Binds K fd ps []
section
variable {X : Cx} {B : Bx} {W : WX} {P : Po} {r q : List Sl} {e a b o tg : Expr} {es : List Expr} {rest body orelse : List Stmt} {d : D} {ds : List D} {pos pos' p1 apos : Pos} {k kk : Nat} {x m : Str} {gl : List (Addr × Nd)} {p C dx : Addr} {fs : List (Str × It)} {c : CtO} {Po : Rs → List (Addr × Nd) → Prop} {Ex : Addr → List (Addr × Nd) → Prop}
/-- a call that turns ghosts -/
def EOb (X : Cx) (B : Bx) (W : WX) (iG : Nat) (e : Expr) (r : List Sl) (Po : Rs → List (Addr × Nd) → Prop) (Ex : Addr → List (Addr × Nd) → Prop) : Prop :=
  ∃ te, PE X e te ∧ ∀ H σ, SOk X.K B r H σ → ∀ Q : VK, (∀ s v gl' H', SOk X.K B (r.set iG (.gs gl')) H' σ → RsO X.K (hid B (r.set iG (.gs gl')) H') v s → Po s gl' → Q v H') → (∀ C gl' H', SOk X.K B (r.set iG (.gs gl')) H' σ → Ex C gl' → W (.ref C) none σ H') → te σ H Q
theorem own_set2 {s : Sl} : ∀ {r : List Sl} {i : Nat} {p : Addr}, p ∈ own (r.set i s) → p ∈ ownOf s ∨ p ∈ own (r.set i .no)
  | [], _, _, h => .inr h
  | _ :: _, 0, _, h => (List.mem_append.mp h).elim .inl fun z => .inr z
  | a :: r, i + 1, _, h => (List.mem_append.mp h).elim (fun z => .inr (List.mem_append_left _ z)) fun z => (own_set2 (i := i) z).elim .inl fun y => .inr (List.mem_append_right _ y)
theorem own_no_sub {s : Sl} : ∀ {r : List Sl} {i : Nat} {p : Addr}, p ∈ own (r.set i .no) → p ∈ own (r.set i s)
  | [], _, _, h => h
  | _ :: _, 0, _, h => List.mem_append_right _ h
  | a :: r, i + 1, _, h => (List.mem_append.mp h).elim (fun z => List.mem_append_left _ z) fun z => List.mem_append_right _ (own_no_sub (i := i) z)
/-- what a callee with all ghosts may ask, and what it gives back -/
theorem spO_of {iG : Nat} {H : Hp} {σ : St} {its : List It} {vs : List V} {Q : VK} {E : XK} (S : SOk X.K B r H σ) (hG : r[iG]? = some (.gs gl)) (A : ItA X.K (hid B r H) vs its) (hc : c its gl Po Ex)
    (k1 : ∀ s v gl' H', SOk X.K B (r.set iG (.gs gl')) H' σ → RsO X.K (hid B (r.set iG (.gs gl')) H') v s → Po s gl' → Q v H') (k2 : ∀ C gl' H', SOk X.K B (r.set iG (.gs gl')) H' σ → Ex C gl' → E (.ref C) none H') : spO B.ts X.K c vs H Q E := by
  obtain ⟨G, nd⟩ := S.ghosts hG
  have hr : r.set iG (.gs gl) = r := set_self hG
  have sub1 : ∀ {gl' : List (Addr × Nd)}, ∀ q ∈ own (r.set iG (.gs gl')) ++ B.ps, q ∈ gown gl' ++ (own (r.set iG .no) ++ B.ps) := fun {gl'} q hq => (List.mem_append.mp hq).elim (fun z => (own_set2 z).elim (fun y => List.mem_append_left _ y) fun y => List.mem_append_right _ (List.mem_append_left _ y)) fun z => List.mem_append_right _ (List.mem_append_right _ z)
  have hi := (List.getElem?_eq_some_iff.mp hG).1
  have sub2 : ∀ {gl' : List (Addr × Nd)}, ∀ q ∈ gown gl' ++ (own (r.set iG .no) ++ B.ps), q ∈ own (r.set iG (.gs gl')) ++ B.ps := fun {gl'} q hq => (List.mem_append.mp hq).elim (fun z => List.mem_append_left _ (mem_own (i := iG) (s := .gs gl') (List.getElem?_set_self hi) z)) fun z => (List.mem_append.mp z).elim (fun y => List.mem_append_left _ (own_no_sub y)) fun y => List.mem_append_right _ y
  have ap : ∀ q ∈ gown gl, q ∉ own (r.set iG .no) ++ B.ps := fun q hq z => by
    rcases List.mem_append.mp z with z | z
    · -- the ghosts and the other slots are apart
      have key : ∀ {g : List Sl} {i : Nat}, g[i]? = some (.gs gl) → (own g).Nodup → q ∉ own (g.set i .no) := by
        intro g
        induction g with
        | nil => intro i h; simp at h
        | cons a g ih =>
          intro i h nd
          have nd : (ownOf a ++ own g).Nodup := nd
          obtain ⟨n1, n2, n3⟩ := List.nodup_append.mp nd
          cases i with
          | zero =>
            simp at h; subst h
            intro w
            have w : q ∈ own g := w
            exact n3 q hq q w rfl
          | succ i =>
            have hi : g[i]? = some (.gs gl) := by simpa using h
            intro w
            rcases List.mem_append.mp w with w | w
            · exact n3 q w q (mem_own hi hq) rfl
            · exact ih hi n2 w
      exact key hG S.nd z
    · exact S.old q z (S.new q (mem_own hG hq))
  have back : ∀ {gl' : List (Addr × Nd)} {H' : Hp}, GNew gl gl' H H' → GOk X.K (hide H' (gown gl' ++ (own (r.set iG .no) ++ B.ps))) H' gl' → SOk X.K B (r.set iG (.gs gl')) H' σ := fun {gl' H'} n g => S.gset hG n.k n.nd n.nw fun _ => GOk.mono (hide_sub sub1) (fun _ _ => rfl) g
  refine ⟨own (r.set iG .no) ++ B.ps, gl, its, Po, Ex, S.tb, fun q hq => ?_, nd, ap, ?_, ?_, hc, fun s v gl' H' n g ro ho => ?_, fun C gl' H' n g hx => k2 C gl' H' (back n g) hx⟩
  · rcases List.mem_append.mp hq with z | z
    · exact S.dom q (List.mem_append_left _ (by have := own_no_sub (s := .gs gl) z; rw [hr] at this; exact this))
    · exact S.dom q (List.mem_append_right _ z)
  · exact GOk.mono (hide_sub (by have := @sub2 gl; rw [hr] at this; exact this)) (fun _ _ => rfl) G
  · exact ItA.mono (hide_sub (by have := @sub2 gl; rw [hr] at this; exact this)) A
  · refine k1 s v gl' H' (back n g) ?_ ho
    cases s with
    | da d => exact Rp.mono (hide_sub sub1) ro
    | rf a => exact ro
    | nl _ => exact ro
    | nd _ => exact ro
theorem eoMeth (iG j : Nat) {pl : Sem Bool} (g : Go X W kk) (ho : ER X B o r p) (hG : r[iG]? = some (.gs gl)) (hj : gl[j]? = some (p, .ob C dx fs)) (cl : Cls X.K C) (M : MthO X.prog X.w B.ts X.K X.mg X.base C m k c) (hk : k ≤ kk) (hl : fs.lookup m = none) (ha : EA X B (e :: es) r ds) (hc : c (.rf p :: ds.map It.da) gl Po Ex)
    (hst : starEach (e :: es) X.env = (false, eval e X.env) :: starEach es X.env := by rfl) (hpl : (backTo pos (starEach es X.env)).any (·.1) = false := by rfl)
    (ht : eval (.Call (.Attribute o m apos) (e :: es) [] pos) X.env = (do
      let ov ← eval o X.env
      standAt apos.atName
      let (f, first) ← holding [ov] (getMethod ov m pl)
      callWith pos f first (backTo pos (starEach (e :: es) X.env)) (backToKw pos (keywordEach [] X.env))) := by rfl) : EOb X B W iG (.Call (.Attribute o m apos) (e :: es) [] pos) r Po Ex := by
  obtain ⟨f, fd, ps, F, hm, hb⟩ := M
  obtain ⟨te, pp, kt⟩ := ho
  obtain ⟨ta, pa, ka⟩ := ha
  refine ⟨_, pe_methX pp cl hm F (g.hr.mono hk) hb (fun σ => passAt g.tk σ) pa hst hpl ht, fun H σ S Q k1 k2 => kt H σ S _ fun H1 s1 => ?_⟩
  obtain ⟨vs, e1, e2, z⟩ := ((S.mono s1).ghosts hG).1.get hj
  refine ⟨p, dx, vs, rfl, e1, z.none hl, ka H1 σ (S.mono s1) _ fun ws H2 s2 y => ?_⟩
  exact spO_of ((S.mono s1).mono s2) hG (.cons (i := .rf p) rfl (RpA.its y)) hc k1 k2
theorem eoMeth0 (iG j : Nat) {pl : Sem Bool} (g : Go X W kk) (ho : ER X B o r p) (hG : r[iG]? = some (.gs gl)) (hj : gl[j]? = some (p, .ob C dx fs)) (cl : Cls X.K C) (M : MthO X.prog X.w B.ts X.K X.mg X.base C m k c) (hk : k ≤ kk) (hl : fs.lookup m = none) (hc : c [.rf p] gl Po Ex)
    (ht : eval (.Call (.Attribute o m apos) [] [] pos) X.env = (do
      let ov ← eval o X.env
      standAt apos.atName
      let (f, first) ← holding [ov] (getMethod ov m pl)
      callWith pos f first (backTo pos (starEach [] X.env)) (backToKw pos (keywordEach [] X.env))) := by rfl) : EOb X B W iG (.Call (.Attribute o m apos) [] [] pos) r Po Ex := by
  obtain ⟨f, fd, ps, F, hm, hb⟩ := M
  obtain ⟨te, pp, kt⟩ := ho
  refine ⟨_, pe_methX0 pp cl hm F (g.hr.mono hk) hb (fun σ => passAt g.tk σ) ht, fun H σ S Q k1 k2 => kt H σ S _ fun H1 s1 => ?_⟩
  obtain ⟨vs, e1, e2, z⟩ := ((S.mono s1).ghosts hG).1.get hj
  refine ⟨p, dx, vs, rfl, e1, z.none hl, ?_⟩
  exact spO_of (S.mono s1) hG (.cons (i := .rf p) rfl .nil) hc k1 k2
/-- f(e, ..), data alone -/
theorem eoCall (iG : Nat) (g : Go X W kk) (M : CalO X.prog X.w B.ts X.K X.mg X.base x k c) (hk : k ≤ kk) (hG : r[iG]? = some (.gs gl)) (ha : EA X B (e :: es) r ds) (hc : c (ds.map It.da) gl Po Ex) (hg : Gl X x := by rfl) (hdb : (x == ("__debug__" : Str)) = false := by decide)
    (he : starEach (e :: es) X.env = (false, eval e X.env) :: starEach es X.env := by rfl) (hpl : (backTo pos (starEach es X.env)).any (·.1) = false := by rfl) : EOb X B W iG (.Call (.Name x p1) (e :: es) [] pos) r Po Ex := by
  obtain ⟨f, fd, ps, F, hm, hkp, hb⟩ := M
  obtain ⟨ta, pa, ka⟩ := ha
  refine ⟨_, pe_callS F (g.hr.mono hk) hg hm hkp hb (fun σ => passAt g.tk σ) pa hdb he hpl, fun H σ S Q k1 k2 => ka H σ S _ fun vs H1 s1 y => ?_⟩
  exact spO_of (S.mono s1) hG (RpA.its y) hc k1 k2
/-- C(e, ..): a new object -/
theorem eoMake (iG : Nat) (g : Go X W kk) (M : MakO X.prog X.w B.ts X.K X.mg X.base x C k c) (hk : k + 1 ≤ kk) (hG : r[iG]? = some (.gs gl)) (ha : EA X B (e :: es) r ds) (hc : ∀ p dx, c (.rf p :: ds.map It.da) ((p, .ob C dx []) :: gl) (fun s gl' => s = .da .none ∧ Po (.rf p) gl') fun _ _ => False) (hg : Gl X x := by rfl) (hdb : (x == ("__debug__" : Str)) = false := by decide)
    (he : starEach (e :: es) X.env = (false, eval e X.env) :: starEach es X.env := by rfl) (hpl : (backTo pos (starEach es X.env)).any (·.1) = false := by rfl) : EOb X B W iG (.Call (.Name x p1) (e :: es) [] pos) r Po Ex := by
  obtain ⟨f, fd, ps, F, hm, hx, hb⟩ := M
  obtain ⟨ta, pa, ka⟩ := ha
  refine ⟨_, pe_make hm F (g.hr.mono hk) hg hx hb .nil passL pa hdb he hpl, fun H σ S Q k1 k2 => ka H σ S _ fun vs H1 s1 y => ?_⟩
  intro a dx na nd ne
  have S1 := S.mono s1
  obtain ⟨G, gnd⟩ := S1.ghosts hG
  have there : ∀ q ∈ gown gl, ∃ u, H1 q = some u ∧ NT u := fun q hq => GOk.there G hq
  have sm : Same H1 (upd (upd H1 dx (.own a)) a (.ins C dx [])) := (same_new nd).trans (same_new (by rw [upd_ne (Ne.symm ne)]; exact na))
  have S2 : SOk X.K B (r.set iG (.gs ((a, .ob C dx []) :: gl))) (upd (upd H1 dx (.own a)) a (.ins C dx [])) σ := by
    refine S1.gset hG (fun q o eq _ => sm q o eq) ?_ ?_ fun hh => ?_
    · show (a :: dx :: gown gl).Nodup
      refine List.nodup_cons.mpr ⟨fun z => ?_, List.nodup_cons.mpr ⟨fun z => ?_, gnd⟩⟩
      · rcases List.mem_cons.mp z with z | z
        · exact ne z.symm
        · obtain ⟨u, eu, nt⟩ := there a z; rw [na] at eu; cases eu
      · obtain ⟨u, eu, nt⟩ := there dx z; rw [nd] at eu; cases eu
    · intro q hq
      rcases List.mem_cons.mp hq with z | z
      · exact .inr (z ▸ na)
      · rcases List.mem_cons.mp z with z | z
        · exact .inr (z ▸ nd)
        · exact .inl z
    · refine ⟨⟨[], upd_same, by rw [upd_ne ne, upd_same], .nil⟩, GOk.mono hh (fun q hq => ?_) G⟩
      obtain ⟨u, eu, nt⟩ := there q hq
      rw [eu]; exact sm.k eu nt
  rw [List.append_nil]
  have hG2 := get_set (s' := .gs ((a, .ob C dx []) :: gl)) hG
  have ys : RpA X.K (hid B (r.set iG (.gs ((a, .ob C dx []) :: gl))) (upd (upd H1 dx (.own a)) a (.ins C dx []))) vs ds := by
    refine y.mono fun q u eq => ?_
    have eq : hide H1 (own r ++ B.ps) q = some u := eq
    by_cases hq : q ∈ own r ++ B.ps
    · rw [hide_in hq] at eq; cases eq
    · rw [hide_out hq] at eq
      show Ext1 u (hide _ (own (r.set iG (.gs ((a, .ob C dx []) :: gl))) ++ B.ps) q)
      rw [hide_out fun z => ?_]
      · exact sm q u eq
      · rcases List.mem_append.mp z with z | z
        · rcases own_set_mem z with z | z
          · rcases List.mem_cons.mp z with z | z
            · rw [z, na] at eq; cases eq
            · rcases List.mem_cons.mp z with z | z
              · rw [z, nd] at eq; cases eq
              · exact hq (List.mem_append_left _ (mem_own hG z))
          · exact hq (List.mem_append_left _ z)
        · exact hq (List.mem_append_right _ z)
  refine spO_of (E := E0) S2 hG2 (.cons (i := .rf a) rfl (RpA.its ys)) (hc a dx) (fun s v gl' H' S3 ro ho => ?_) fun _ _ _ _ z => z.elim
  obtain ⟨hs, ho⟩ := ho
  subst hs
  cases ro
  rw [set_set] at S3
  exact ⟨rfl, k1 (.rf a) _ gl' H' S3 rfl ho⟩
def Rs.slO : Rs → Sl
  | .da d => .im d
  | .rf a => .rf a
  | _ => .no
theorem sv_asgO (i iG : Nat) (g : Go X W k) (he : EOb X B W iG e r Po Ex) (h : ∀ s gl', Po s gl' → SV X B W rest ((r.set iG (.gs gl')).set i s.slO) P) (hxe : ∀ C gl', Ex C gl' → P.ex C (r.set iG (.gs gl'))) (hi : X.N[i]? = some x := by rfl) (hx : Loc X.env.scope x := by first | exact Or.inl rfl | exact Or.inr rfl)
    (hs : swapsWith e (some (.Name x pos')) pos.line X.env = pure false := by rfl) (hf : X.fn x = true ∨ X.env.scope.names.lookup x = some .local := by first | exact .inl rfl | exact .inr rfl) : SV X B W (.Assign [.Name x pos'] e pos :: rest) r P := fun H σ E S kt => by
  obtain ⟨te, p, q⟩ := he
  refine ⟨_, pss_cons (ps_set g.nd hi hx p hs hf) wS_ok, q H σ S _ (fun s v gl' H' S' ro ho => ?_) fun C gl' H' S' hx' => kt.ex C _ σ H' S' (hxe C gl' hx')⟩
  refine h s gl' ho H' _ E ?_ kt
  cases s with
  | da d => exact S'.im ro
  | rf a => exact S'.set (s := .rf a) rfl (congrArg (fun z => some (some z)) ro)
  | nl _ => exact ro.elim
  | nd _ => exact ro.elim
theorem sv_dropO (iG : Nat) (he : EOb X B W iG e r Po Ex) (h : ∀ s gl', Po s gl' → SV X B W rest (r.set iG (.gs gl')) P) (hxe : ∀ C gl', Ex C gl' → P.ex C (r.set iG (.gs gl'))) (hs : swapsWith e none pos.line X.env = pure false := by rfl) : SV X B W (.Expr e pos :: rest) r P := fun H σ E S kt => by
  obtain ⟨te, p, q⟩ := he
  exact ⟨_, pss_cons (ps_expr p hs) wS_ok, q H σ S _ (fun s v gl' H' S' ro ho => h s gl' ho H' σ E S' kt) fun C gl' H' S' hx' => kt.ex C _ σ H' S' (hxe C gl' hx')⟩
theorem sv_retOb (iG : Nat) (he : EOb X B W iG e r Po Ex) (h : ∀ s gl', Po s gl' → P.rt s (r.set iG (.gs gl'))) (hxe : ∀ C gl', Ex C gl' → P.ex C (r.set iG (.gs gl'))) : SV X B W (.Return (some e) pos :: rest) r P := fun H σ E S kt => by
  obtain ⟨te, p, q⟩ := he
  refine ⟨_, pss_cons (ps_ret p) wS_ok, q H σ S _ (fun s v gl' H' S' ro ho => kt.rt s v _ σ H' S' ?_ (h s gl' ho)) fun C gl' H' S' hx' => kt.ex C _ σ H' S' (hxe C gl' hx')⟩
  cases s with
  | da d => exact ro
  | rf a => exact ro
  | nl _ => exact ro.elim
  | nd _ => exact ro.elim
/-- if not call: body -/
theorem sv_ifNO {pn : Pos} (iG : Nat) (he : EOb X B W iG e r Po Ex) (hb : ∀ s gl', Po s gl' → ∃ k, s = .da (.bool k)) (h1 : ∀ gl', Po (.da (.bool false)) gl' → SV X B W body (r.set iG (.gs gl')) (P.then fun r' => SV X B W rest r' P)) (h2 : ∀ gl', Po (.da (.bool true)) gl' → SV X B W orelse (r.set iG (.gs gl')) (P.then fun r' => SV X B W rest r' P)) (hxe : ∀ C gl', Ex C gl' → P.ex C (r.set iG (.gs gl')))
    (hw : ∀ whole, isTrue e X.env whole = (do let v ← whole; standAt e.pos; holding [v] (truthy v)) := by intro _; rfl) : SV X B W (.If (.UnaryOp .Not e pn) body orelse pos :: rest) r P := fun H σ E S kt => by
  obtain ⟨te, p, q⟩ := he
  refine ⟨_, pss_cons (ps_if (pt_not (pt_val p hw)) wS_ok wS_ok) wS_ok, q H σ S _ (fun s v gl' H' S' ro ho => ?_) fun C gl' H' S' hx' => kt.ex C _ σ H' S' (hxe C gl' hx')⟩
  obtain ⟨kb, rfl⟩ := hb s gl' ho
  cases ro
  have kt' : Kt X B W (P.then fun r' => SV X B W rest r' P) { E with nx := wS X rest E } := kt.then (t := wS X rest) fun r' σ' H' S' hR => hR H' σ' E S' kt
  cases kb with
  | true => exact ⟨true, rfl, iteF (h2 gl' ho H' σ _ S' kt')⟩
  | false => exact ⟨false, rfl, iteT (h1 gl' ho H' σ _ S' kt')⟩
end
end Tp

namespace Tp
open PySem L2
section
variable {X : Cx} {B : Bx} {W : WX} {P : Po} {r q : List Sl} {e e1 : Expr} {es : List Expr} {sts rest : List Stmt} {d : D} {ds : List D} {pos p1 : Pos} {k kk : Nat} {x : Str} {gl gl' : List (Addr × Nd)} {c : Ct}
/-- a def that takes no objects starts without ghosts -/
theorem sv_ghost0 (iG : Nat) (h0 : r[iG]? = some .no) (h : SV X B W sts (r.set iG (.gs [])) P) : SV X B W sts r P := fun H σ E S kt => by
  have oe : own (r.set iG (.gs [])) = own r := own_set_eq (s := .no) (s' := .gs []) rfl h0
  refine h H σ E ⟨S.ex, S.old, ?_, ?_, by rw [List.length_set]; exact S.len, fun i s e => ?_, S.tb, by show GOk X.K (hide H (own (r.set iG (.gs [])) ++ B.ps)) H B.gr; rw [oe]; exact S.gr, S.gp⟩ kt
  · rw [own_set_eq (s := .no) (s' := .gs []) rfl h0]; exact S.new
  · rw [own_set_eq (s := .no) (s' := .gs []) rfl h0]; exact S.nd
  · show SlOk X.K (hide H (own (r.set iG (.gs [])) ++ B.ps)) H s _
    rw [own_set_eq (s := .no) (s' := .gs []) rfl h0]
    by_cases hj : iG = i
    · subst hj
      rw [List.getElem?_set_self (List.getElem?_eq_some_iff.mp h0).1] at e
      cases e
      trivial
    · rw [List.getElem?_set_ne hj] at e
      exact S.sl i s e
theorem gown_perm (h : gl.Perm gl') : (gown gl).Perm (gown gl') := by
  induction h with
  | nil => exact .refl _
  | cons a _ ih => obtain ⟨a, n⟩ := a; rw [gown_cons, gown_cons]; exact ih.append_left _
  | swap a b l =>
    obtain ⟨a, n⟩ := a
    obtain ⟨b, m⟩ := b
    rw [gown_cons, gown_cons, gown_cons, gown_cons, ← List.append_assoc, ← List.append_assoc]
    exact (List.perm_append_comm).append_right _
  | trans _ _ h1 h2 => exact h1.trans h2
theorem GOk.perm {K : PySem.W.Frag} {Hh H : Hp} (h : gl.Perm gl') : GOk K Hh H gl → GOk K Hh H gl' := by
  induction h with
  | nil => exact id
  | cons a _ ih => exact fun x => ⟨x.1, ih x.2⟩
  | swap a b l => exact fun x => ⟨x.2.1, x.1, x.2.2⟩
  | trans _ _ h1 h2 => exact fun x => h2 (h1 x)
/-- the ghosts in another order -/
theorem sv_perm (iG : Nat) (hG : r[iG]? = some (.gs gl)) (hp : gl.Perm gl') (h : SV X B W sts (r.set iG (.gs gl')) P) : SV X B W sts r P := fun H σ E S kt => by
  obtain ⟨G, nd⟩ := S.ghosts hG
  exact h H σ E (S.gset hG (fun _ _ e _ => .inl e) ((gown_perm hp).nodup_iff.mp nd) (fun p hp' => .inl ((gown_perm hp).mem_iff.mpr hp')) fun hh => (GOk.mono hh (fun _ _ => rfl) G).perm hp) kt
/-- f(o.m(..), e, ..): a call over data whose first argument turns ghosts -/
theorem eoArg1 (iG : Nat) {Po1 Po : Rs → List (Addr × Nd) → Prop} (g : Go X W kk) (h1 : EOb X B W iG e1 r Po1 fun _ _ => False) (C : Cal X.prog X.w B.ts X.K X.mg X.base x k c) (hk : k ≤ kk)
    (h2 : ∀ s gl', Po1 s gl' → ∃ d0, s = .da d0 ∧ ∃ ds, EA X B es (r.set iG (.gs gl')) ds ∧ ∃ dr, Po (.da dr) gl' ∧ c (d0 :: ds) (fun s' => s' = .da dr) fun _ => False)
    (hg : Gl X x := by rfl) (hdb : (x == ("__debug__" : Str)) = false := by decide)
    (he : starEach (e1 :: es) X.env = (false, eval e1 X.env) :: starEach es X.env := by rfl) (hpl : (backTo pos (starEach es X.env)).any (·.1) = false := by rfl) : EOb X B W iG (.Call (.Name x p1) (e1 :: es) [] pos) r Po fun _ _ => False := by
  obtain ⟨f, fd, ps, F, hm, hkp, hb⟩ := C
  obtain ⟨t1, q1, k1⟩ := h1
  -- the other arguments, the same reading for all ghosts
  let ta : TA := fun σ H Q => ∃ t, PA X es t ∧ t σ H Q
  have pa : PA X es ta := ⟨fun pos pins s σ H Q I ⟨t, p, z⟩ => p.run pos pins s σ H Q I z⟩
  refine ⟨_, pe_callS F (g.hr.mono hk) hg hm hkp hb (fun σ => passAt g.tk σ) (pa_cons q1 pa he) hdb he hpl, fun H σ S Q z1 z2 => k1 H σ S _ (fun s v gl' H' S' ro ho => ?_) fun _ _ _ _ z => z.elim⟩
  obtain ⟨d0, rfl, ds, ⟨t, p, ka⟩, dr, hPo, hc⟩ := h2 s gl' ho
  refine ⟨t, p, ka H' σ S' _ fun vs H2 s2 y => ?_⟩
  have S2 := S'.mono s2
  refine ⟨own (r.set iG (.gs gl')) ++ B.ps, d0 :: ds, fun s' => s' = .da dr, fun _ => False, S2.tb, S2.dom, .cons (Rp.mono (hide_mono s2) ro) y, hc, fun s' v' H3 s3 ro' ho' => ?_, fun _ _ _ z => z.elim⟩
  subst ho'
  exact z1 (.da dr) v' gl' H3 (S2.mono s3) ro' hPo
/-- a test: not call -/
theorem sv_ifNOX {pn : Pos} {body : List Stmt} (iG : Nat) {Po : Rs → List (Addr × Nd) → Prop} (he : EOb X B W iG e r Po fun _ _ => False) (hb : ∀ s gl', Po s gl' → s = .da (.bool true)) (h : ∀ gl', Po (.da (.bool true)) gl' → SV X B W rest (r.set iG (.gs gl')) P)
    (hw : ∀ whole, isTrue e X.env whole = (do let v ← whole; standAt e.pos; holding [v] (truthy v)) := by intro _; rfl) : SV X B W (.If (.UnaryOp .Not e pn) body [] pos :: rest) r P :=
  sv_ifNO iG he (fun s gl' h => ⟨true, hb s gl' h⟩) (fun gl' h => absurd (hb _ _ h) (by intro z; cases z)) (fun gl' h' => sv_nil (h gl' h')) (fun _ _ z => z.elim) hw
/-! tests whose first part turns ghosts -/
def ETg (X : Cx) (B : Bx) (W : WX) (iG : Nat) (c : Expr) (r : List Sl) (Pk : Bool → List (Addr × Nd) → Prop) : Prop :=
  ∃ t, PT X c t ∧ ∀ H σ, SOk X.K B r H σ → ∀ Q : Bool → Hp → Prop, (∀ k gl' H', SOk X.K B (r.set iG (.gs gl')) H' σ → Pk k gl' → Q k H') → t σ H Q
theorem etgCall (iG : Nat) {Po : Rs → List (Addr × Nd) → Prop} {Pk : Bool → List (Addr × Nd) → Prop} (he : EOb X B W iG e r Po fun _ _ => False) (h : ∀ s gl', Po s gl' → ∃ k, s = .da (.bool k) ∧ Pk k gl') (hw : ∀ whole, isTrue e X.env whole = (do let v ← whole; standAt e.pos; holding [v] (truthy v)) := by intro _; rfl) : ETg X B W iG e r Pk := by
  obtain ⟨te, p, q⟩ := he
  refine ⟨_, pt_val p hw, fun H σ S Q z => q H σ S _ (fun s v gl' H' S' ro ho => ?_) fun _ _ _ _ y => y.elim⟩
  obtain ⟨k, rfl, hk⟩ := h s gl' ho
  cases ro
  exact ⟨k, rfl, z k gl' H' S' hk⟩
theorem etgNot {pn : Pos} {iG : Nat} {Pk : Bool → List (Addr × Nd) → Prop} (h : ETg X B W iG e r fun k gl' => Pk (!k) gl') : ETg X B W iG (.UnaryOp .Not e pn) r Pk := by
  obtain ⟨t, p, q⟩ := h
  exact ⟨_, pt_not p, fun H σ S Q z => q H σ S _ fun k gl' H' S' hk => z (!k) gl' H' S' hk⟩
theorem etgOr {pn : Pos} {iG : Nat} {b : Expr} {kb : List (Addr × Nd) → Bool} {Pk Pa : Bool → List (Addr × Nd) → Prop} (h : ETg X B W iG e r Pa) (hb : ∀ gl', Pa false gl' → ET X B b (r.set iG (.gs gl')) (kb gl')) (h1 : ∀ gl', Pa true gl' → Pk true gl') (h2 : ∀ gl', Pa false gl' → Pk (kb gl') gl') : ETg X B W iG (.BoolOp .Or [e, b] pn) r Pk := by
  obtain ⟨t, p, q⟩ := h
  refine ⟨_, (pw_or p (pw_or1 (wT_ok (e := b)))).pt, fun H σ S Q z => q H σ S _ fun k gl' H' S' hk => ?_⟩
  cases k with
  | true => exact iteT (z true gl' H' S' (h1 gl' hk))
  | false =>
    obtain ⟨t', p', q'⟩ := hb gl' hk
    exact iteF ⟨t', p', q' H' σ S' _ fun H2 s2 => z _ gl' H2 (S'.mono s2) (h2 gl' hk)⟩
theorem sv_ifG {c : Expr} {body orelse : List Stmt} {iG : Nat} {Pk : Bool → List (Addr × Nd) → Prop} (hc : ETg X B W iG c r Pk) (h1 : ∀ gl', Pk true gl' → SV X B W body (r.set iG (.gs gl')) (P.then fun r' => SV X B W rest r' P)) (h2 : ∀ gl', Pk false gl' → SV X B W orelse (r.set iG (.gs gl')) (P.then fun r' => SV X B W rest r' P)) : SV X B W (.If c body orelse pos :: rest) r P := fun H σ E S kt => by
  obtain ⟨t, p, q⟩ := hc
  refine ⟨_, pss_cons (ps_if p wS_ok wS_ok) wS_ok, q H σ S _ fun k gl' H' S' hk => ?_⟩
  have kt' : Kt X B W (P.then fun r' => SV X B W rest r' P) { E with nx := wS X rest E } := kt.then (t := wS X rest) fun r' σ' H' S' hR => hR H' σ' E S' kt
  cases k with
  | true => exact iteT (h1 gl' hk H' σ _ S' kt')
  | false => exact iteF (h2 gl' hk H' σ _ S' kt')
theorem etgNotOr {pn pn2 : Pos} (iG : Nat) {b : Expr} {k kb : Bool} {g1 : List (Addr × Nd)} (he : EOb X B W iG e r (fun s gl' => s = .da (.bool k) ∧ gl' = g1) fun _ _ => False) (hb : k = true → ET X B b (r.set iG (.gs g1)) kb)
    (hw : ∀ whole, isTrue e X.env whole = (do let v ← whole; standAt e.pos; holding [v] (truthy v)) := by intro _; rfl) : ETg X B W iG (.BoolOp .Or [.UnaryOp .Not e pn, b] pn2) r (fun z gl' => z = (!k || kb) ∧ gl' = g1) := by
  refine etgOr (Pa := fun z gl' => z = (!k) ∧ gl' = g1) (kb := fun _ => kb) (etgNot (etgCall iG he (fun s gl' h => ⟨k, h.1, rfl, h.2⟩) hw)) (fun gl' h => ?_) (fun gl' h => ?_) fun gl' h => ?_
  · obtain ⟨h1, rfl⟩ := h
    cases k with
    | true => exact hb rfl
    | false => cases h1
  · obtain ⟨h1, rfl⟩ := h
    refine ⟨?_, rfl⟩
    rw [← h1]; rfl
  · obtain ⟨h1, rfl⟩ := h
    refine ⟨?_, rfl⟩
    rw [← h1]; rfl
theorem ov_catA {xs ys : List D} (hl : xs.length + ys.length ≤ 100000) : OV X .Add (.tuple xs) (.tuple ys) (.tuple (xs ++ ys)) :=
  ⟨_, op_catA, fun ps H x y hd rx ry Q q => by
    cases rx with
    | tup h1 a1 =>
      cases ry with
      | tup h2 a2 =>
        have l1 := a1.len
        have l2 := a2.len
        refine ⟨_, _, _, _, rfl, rfl, Tp.seqT hide_same h1, Tp.seqT hide_same h2, by rw [l1, l2]; exact line_of hl, fun z => ?_, fun z z2 => ?_, fun z z2 p hp => ?_⟩
        · subst z
          cases a1
          exact q _ H (Same.refl H) (.tup h2 a2)
        · subst z2
          cases a2
          rw [List.append_nil] at q
          exact q _ H (Same.refl H) (.tup h1 a1)
        · exact q _ _ (same_new hp) (.tup (SqT.of (hide_new hp hd)) ((a1.app a2).mono (hide_mono (same_new hp))))⟩
end
end Tp

namespace Tp
open PySem L2
/-! ### lists put together -/
def rCatL (K : PySem.W.Frag) : R2 := fun x y H Q => ∃ l b xs zs, x = .ref l ∧ y = .ref b ∧ SqL K H l xs ∧ SqL K H b zs ∧ xs.length + zs.length ≤ sizeLine ∧ ∀ p, H p = none → Q (.ref p) (upd H p (.lst (xs ++ zs)))
open PyProof.Rows in
theorem op_catL {X : Cx} : OpR X (binaryOp .Add) (rCatL X.K) := by
  intro pins s σ H x y v u Q I rx ry h
  obtain ⟨l, b, xs, zs, rfl, rfl, ha, hb, hz, q⟩ := h
  cases rx
  cases ry
  obtain ⟨its, r, ⟨⟨cls, dd, data, sl⟩, n, e, hc, hd, hdt⟩, z⟩ := I.list ha
  obtain ⟨its2, r2, ⟨⟨cls2, dd2, data2, sl2⟩, n2, e2, hc2, hd2, hdt2⟩, z2⟩ := I.list hb
  simp only at hc hd hdt hc2 hd2 hdt2
  subst hc hd hdt hc2 hd2 hdt2
  have l1 := r.length
  have l2 := r2.length
  have ea : its.toArray ++ its2.toArray = (its ++ its2).toArray := by simp
  refine concat_meets ⟨_, e, rfl⟩ ⟨_, e2, rfl⟩ noFill_list_add seq_list_add PySem.F.slot_list_add PySem.F.entry_list_add (PySem.F.args_list_add_2 _ _) (list_addW l b its.toArray its2.toArray n n2 none none sl sl2 (by rw [List.size_toArray, List.size_toArray]; omega)) ⟨e, e2, ?_⟩
  rw [ea]
  exact ⟨.ref _, _, I.lnew (t' := s.toks) (r.append r2) (by rw [List.length_append]; omega), rfl, q _ I.fresh⟩
section
variable {X : Cx} {B : Bx} {W : WX} {P : Po} {r q : List Sl} {e e1 : Expr} {es : List Expr} {sts rest : List Stmt} {d : D} {ds : List D} {pos p : Pos} {k kk n : Nat} {x : Str} {c : Ct}
theorem ov_catL {xs ys : List D} (hl : xs.length + ys.length ≤ 100000) : OV X .Add (.list xs) (.list ys) (.list (xs ++ ys)) :=
  ⟨_, op_catL, fun ps H x y hd rx ry Q q => by
    cases rx with
    | lst h1 a1 =>
      cases ry with
      | lst h2 a2 =>
        have l1 := a1.len
        have l2 := a2.len
        refine ⟨_, _, _, _, rfl, rfl, hide_same.seq h1, hide_same.seq h2, by rw [l1, l2]; exact line_of hl, fun p hp => ?_⟩
        exact q _ _ (same_new hp) (.lst (SqL.of (hide_new hp hd)) ((a1.app a2).mono (hide_mono (same_new hp))))⟩
/-! ### defaults, keywords -/
/-- the def called x, called with n values and the keywords ks, keeps c; dd: the defaults behind -/
def CalN (P : Program) (w : World) (T : List Addr) (K : PySem.W.Frag) (mg : Str → Option Value) (base : Heap) (x : Str) (k : Nat) (c : Ct) (n : Nat) (ks : List Str) (dd : List D) : Prop :=
  ∃ f fd ps dvs dus, FnOk P w K mg base (L2.CX P w) k f fd ps (spD T K c) ∧ mg x = some (.ref f) ∧ PySem.W.keepIn K (.ref f) = true ∧ KBn K fd ps n ks (fun us ws => us ++ (ws ++ dus)) (fun vs zs => vs ++ (zs ++ dvs)) ∧ RpA K (fun _ => none) dvs dd
theorem kbn_plain {K : PySem.W.Frag} {fd : FuncData} {ps ks : List Str} {n : Nat} (h : ∀ (s : Shared) (us ws : List Value), us.length = n → ws.length = ks.length → BindsTo s fd ⟨us, ks.zip ws⟩ (ps.zip (us ++ ws))) : KBn K fd ps n ks (fun us ws => us ++ (ws ++ [])) (fun vs zs => vs ++ (zs ++ [])) :=
  ⟨fun s us ws _ h1 h2 => by rw [List.append_nil]; exact h s us ws h1 h2, fun {_ _ _ _} r1 r2 => by
    rw [List.append_nil, List.append_nil]; exact r1.append r2⟩
theorem kbn_dflt {K : PySem.W.Frag} {fd : FuncData} {ps : List Str} {n : Nat} {dvs : List V} {dus : List Value} (hb : Binds K fd ps dus) (hd : Vals dvs dus) (hn : n + dus.length = ps.length) : KBn K fd ps n [] (fun us ws => us ++ (ws ++ dus)) (fun vs zs => vs ++ (zs ++ dvs)) :=
  ⟨fun s us ws X h1 h2 => (by
    cases ws with
    | nil => exact hb s us X (by rw [List.length_append, h1]; exact hn)
    | cons _ _ => exact absurd h2 (by simp)), fun {_ _ _ _} r1 r2 => r1.append (r2.append hd)⟩
def tCallNS (n m : Nat) (sp : Sp) (gV : List V → List V → List V) (E : St → XK) (t tk : TA) : TE := fun σ H Q => t σ H fun vs H1 => tk σ H1 fun zs H2 => vs.length = n ∧ zs.length = m ∧ sp (gV vs zs) H2 Q (E σ)
section
variable {CX : CXT} {f : Addr} {fd : FuncData} {ps ks : List Str} {sp : Sp} {E : St → XK} {kws : List Keyword} {t tk : TA} {g : List Value → List Value → List Value} {gV : List V → List V → List V}
theorem run_fnNS {pins : List (Addr × Obj)} {σ : St} {H : Hp} {s : Shared} {Q : VK} {us ws : List Value} {vs zs : List V} (F : FnOk X.prog X.w X.K X.mg X.base CX k f fd ps sp) (hr : Room k X.A) (hb : KBn X.K fd ps n ks g gV) (hx : PassesAt CX X σ (E σ))
    (I : Inv X pins σ H s) (r : Vals vs us) (rz : Vals zs ws) (l1 : vs.length = n) (l2 : zs.length = ks.length) (h : sp (gV vs zs) H Q (E σ)) : wpAny (model X.prog X.w) X.A (call (.ref f) us (ks.zip ws)) (EP X pins σ Q) X.xe s := by
  have r2 := hb.rel r rz
  refine wpAny_call (codeAny_mono (F.run X.A X.stack s H ⟨us, ks.zip ws⟩ (g us ws) (gV vs zs) Q (E σ) hr I.env0 (hb.to s us ws I.kIn (r.length.symm.trans l1) (rz.length.symm.trans l2)) r2 h) fun r s' hq => ?_)
  cases r with
  | error e => exact hx pins H s e s' I hq
  | ok fl =>
    cases fl with
    | ret u => exact I.after hq
    | next => exact False.elim hq
    | brk => exact False.elim hq
    | cont => exact False.elim hq
theorem pe_callNS (F : FnOk X.prog X.w X.K X.mg X.base CX k f fd ps sp) (hr : Room k X.A) (hg : Gl X x) (hm : X.mg x = some (.ref f)) (hk : PySem.W.keepIn X.K (.ref f) = true) (hb : KBn X.K fd ps n ks g gV) (hx : ∀ σ, PassesAt CX X σ (E σ))
    (ha : PA X (e :: es) t) (hkw : PK X kws tk) (hall : (backToKw pos (keywordEach kws X.env)).all (·.1.isSome) = true := by rfl) (hks : (backToKw pos (keywordEach kws X.env)).filterMap (·.1) = ks := by rfl)
    (hdb : (x == ("__debug__" : Str)) = false := by decide) (he : starEach (e :: es) X.env = (false, eval e X.env) :: starEach es X.env := by rfl)
    (hpl : ((backTo pos (starEach (e :: es) X.env)).any (·.1) || (backToKw pos (keywordEach kws X.env)).any (·.1.isNone)) = false := by rfl) :
    PE X (.Call (.Name x p) (e :: es) kws pos) (tCallNS n ks.length sp gV E t tk) := by
  refine ⟨fun pins s σ H Q I h => ?_⟩
  refine wpAny_Call_Name_kw (ld_glob I hg hm ?_ hdb)
  refine PySem.W.callWith_KW (h₀ := X.base) I.ok.mod.kin hk hall (thn (ha.run pos pins s σ H _ I h) fun us s1 ⟨vs, H1, I1, r, q⟩ => ?_) hpl he
  refine thn (hkw.run pos pins s1 σ H1 _ I1 q) fun ws s2 ⟨zs, H2, I2, rz, l1, l2, q2⟩ => ⟨I2.kIn, ?_⟩
  rw [hks]
  exact run_fnNS F hr hb (hx σ) I2 r rz l1 l2 q2
end
/-- keywords' values -/
def EKw (X : Cx) (B : Bx) (kws : List Keyword) (r : List Sl) (ds : List D) : Prop :=
  ∃ ta, PK X kws ta ∧ ∀ H σ, SOk X.K B r H σ → ∀ Q : List V → Hp → Prop, (∀ vs H', Same H H' → RpA X.K (hid B r H') vs ds → Q vs H') → ta σ H Q
theorem ekwN : EKw X B [] r [] := ⟨_, pk_nil, fun H σ _ Q q => q [] H (Same.refl _) .nil⟩
theorem ekwC {nm : Option Str} {kpos : Pos} {kws : List Keyword} (h : EV X B e r d) (hr : EKw X B kws r ds) : EKw X B (⟨nm, e, kpos⟩ :: kws) r (d :: ds) := by
  obtain ⟨t, p, q⟩ := h
  obtain ⟨t', p', q'⟩ := hr
  exact ⟨_, pk_cons p p', fun H σ S Q g => q H σ S _ fun v H1 s1 y => q' H1 σ (S.mono s1) _ fun vs H2 s2 z => g _ H2 (s1.trans s2) (.cons (y.mono (hide_mono s2)) z)⟩
theorem hide_none {H : Hp} {ps : List Addr} : Same (fun _ => none) (hide H ps) := fun _ _ e => by cases e
theorem ecCallN {Po : Rs → Prop} {Ex : Addr → Prop} {kws : List Keyword} {ks : List Str} {dk dd : List D} (g : Go X W kk) (C : CalN X.prog X.w B.ts X.K X.mg X.base x k c n ks dd) (hk : k ≤ kk) (ha : EA X B (e :: es) r ds) (hkw : EKw X B kws r dk) (hc : c (ds ++ (dk ++ dd)) Po Ex) (hn : ds.length = n := by rfl) (hn2 : dk.length = ks.length := by rfl)
    (hg : Gl X x := by rfl) (hall : (backToKw pos (keywordEach kws X.env)).all (·.1.isSome) = true := by rfl) (hks : (backToKw pos (keywordEach kws X.env)).filterMap (·.1) = ks := by rfl)
    (hdb : (x == ("__debug__" : Str)) = false := by decide) (he : starEach (e :: es) X.env = (false, eval e X.env) :: starEach es X.env := by rfl)
    (hpl : ((backTo pos (starEach (e :: es) X.env)).any (·.1) || (backToKw pos (keywordEach kws X.env)).any (·.1.isNone)) = false := by rfl) : EC X B W (.Call (.Name x p) (e :: es) kws pos) r Po Ex := by
  obtain ⟨f, fd, ps, dvs, dus, F, hm, hkp, hb, hd⟩ := C
  obtain ⟨ta, pa, ka⟩ := ha
  obtain ⟨tk, pk, kk'⟩ := hkw
  refine ⟨_, pe_callNS F (g.hr.mono hk) hg hm hkp hb (fun σ => passAt g.tk σ) pa pk hall hks hdb he hpl, fun H σ S Q q qx => ka H σ S _ fun vs H1 s1 y => kk' H1 σ (S.mono s1) _ fun zs H2 s2 y2 => ?_⟩
  refine ⟨y.len.trans hn, y2.len.trans hn2, own r ++ B.ps, ds ++ (dk ++ dd), Po, Ex, ((S.mono s1).mono s2).tb, ((S.mono s1).mono s2).dom, ?_, hc, fun s v H' z ro ho => q s v H2 H' (s1.trans s2) z ro ho, fun C H' z hx => qx C H' ((s1.trans s2).trans z) hx⟩
  exact (y.mono (hide_mono s2)).app (y2.app (hd.mono hide_none))
end
end Tp

/-! sum of a generator expression over a tuple's items -/
namespace TpG
open PySem PySem.Spec PyProof.Rows L2
open Tp (D Same SOk hid hide Bx RpA Rp ES EV Sl)
/-- x[k], x a tuple -/
theorem elt_ix {prog : Program} {w : World} {scope : Scope} {x : Str} {k : Nat} {j : Nat} {p1 p2 p3 : Pos} (hk : scope.kind = .function) (hl : scope.names.lookup x = some .local) (hd : (x == ("__debug__" : Str)) = false := by decide)
    {cenv : Env} {A' : Around} {E' : Value → Shared → Prop} {b : Addr} {its : Array Value} {n : Int} {t : Tok} {s₂ : Shared} {m₂ : Str → Option Value} (hs : cenv.scope = scope) (hn : s₂.heap.Ns cenv.locals m₂) (hm : m₂ x = some (.ref b)) (ht : IsTup s₂.heap b its) (hz : its.size ≤ sizeLine) (hx : its[k]? = some (.int n t)) :
    wpAny (model prog w) A' (eval (.Subscript (.Name x p1) (.Constant (.int (k : Int)) j p2) p3) cenv) (fun y s₃ => y = .int n t ∧ Keeps s₂ s₃) E' s₂ := by
  refine PySem.wpAny_Subscript_Constant_late ?_
  refine wpAny_Name (wpAny_loadName_local (by rw [hs]; exact hk) (show cenv.scope.names.lookup x = some .local by rw [hs]; exact hl) hn hm ?_) hd
  refine wpAny_Constant_int ?_
  have hlt : k < its.size := by
    rcases Nat.lt_or_ge k its.size with h | h
    · exact h
    · rw [Array.getElem?_eq_none h] at hx; cases hx
  have l63 := line63
  have ht' : IsTup ({ s₂ with toks := s₂.toks + 1 } : Shared).heap b its := ht
  refine ⟨"tuple", _, slot_tuple_getitem.lookup, ht'.typeIs, ?_⟩
  refine getItem_tuple (j := k) ht' (by omega) (by omega) ?_ hx ⟨rfl, GxR.keeps_tok _ _⟩
  have h1 : ¬ ((k : Int) < 0) := by omega
  simp [seqIndex?, h1, hlt]
section
variable {X : Cx} {pins : List (Addr × Obj)} {σ : L2.St} {H : Hp} {s : Shared}
/-- the generator g, ready to be walked, in the state s5; H1: what was held before -/
def ReadyN (X : Cx) (pins : List (Addr × Obj)) (σ : L2.St) (H1 : Hp) (P : Addr) (ns : List Int) (g : Addr) (s5 : Shared) : Prop :=
  ∃ (fp wr : List Addr) (G : Array GenState → Array GenState → Prop) (F : Nat → Value → Prop) (St : Nat → Shared → Prop),
    WalksS X.prog X.w X.A.in1 g fp wr G ns.length F St ∧ St 0 s5 ∧ (∀ b ∈ fp, b < s5.heap.objs.size) ∧
    (∀ j v, F j v → ∃ (t : Tok), v = .int (ns.getD j 0) t) ∧
    ∀ s', Moved wr G s5 s' → ∃ H2, GxR.Tabbed P H1 H2 ∧ Inv X pins σ H2 s'
/-- what is asked of the items: tuples with an int at k -/
def ItemsK (K : PySem.W.Frag) (H : Hp) (k : Nat) (xs : List V) (ns : List Int) : Prop := xs.length = ns.length ∧ ∀ (i : Nat) (v : V), xs[i]? = some v → ∃ b ys, v = .ref b ∧ SqT K H b ys ∧ ys[k]? = some (.int (ns.getD i 0))
theorem gen_tup {c P : Addr} {iter : Expr} {x : Str} {px gpos p1 p2 p3 : Pos} {scope : Scope} {te : TE} {kk k j : Nat} {Q' : Value → Shared → Prop} {R : List Int → Hp → Prop}
    (hr : Room kk X.A) (TB : GxR.TabB X.base X.mg c P) (hcode : X.env.code = .ref c) (S : GxR.GenS X.env scope x) (hi : PE X iter te) (hd : (x == ("__debug__" : Str)) = false)
    (hs : ∀ v, genFold iter X.env v = pure v) (I : Inv X pins σ H s) (h : te σ H fun v H1 => ∃ (yl : Addr) (xs : List V) (ns : List Int), v = .ref yl ∧ SqT X.K H1 yl xs ∧ ItemsK X.K H1 k xs ns ∧ GxR.TabG H1 P ∧ R ns H1)
    (hQ : ∀ ns H1 g s5, R ns H1 → ReadyN X pins σ H1 P ns g s5 → Q' (.ref g) s5) :
    wpAny (model X.prog X.w) X.A (eval (.GeneratorExp (.Subscript (.Name x p1) (.Constant (.int (k : Int)) j p2) p3) [⟨.Name x px, iter, [], 0⟩] scope gpos) X.env) Q' X.xe s := by
  refine wpAny_GeneratorExp_walksQ hr.hd S.co (closure_ok S.free) S.cell S.dot S.loc S.kind (by have := hr.dp; omega) ?_ hs
  refine thn (hi.run pins s σ H _ I h) fun xv s1 ⟨v, H1, I1, r1, q1⟩ => ?_
  obtain ⟨yl, xs, ns, rfl, hyl, ⟨hln, hit⟩, ⟨ps, hP, ht⟩, q1⟩ := q1
  obtain rfl : xv = Value.ref yl := r1
  obtain ⟨its, rv, hl, hz⟩ := I1.tuple hyl
  have hIL : s1.heap.IsTuple yl its.toArray := let ⟨o, e1, e2, e3⟩ := hl; ⟨o, e1, e2, e3⟩
  have hlen : its.length = ns.length := by rw [← rv.length]; exact hln
  have hat : ∀ (i : Nat) (v : Value), its.toArray[i]? = some v → ∃ (b : Addr) (zs : Array Value) (t : Tok), v = .ref b ∧ IsTup s1.heap b zs ∧ zs.size ≤ sizeLine ∧ zs[k]? = some (.int (ns.getD i 0) t) := fun i v hv => by
    have hv2 : its[i]? = some v := by simpa using hv
    have hi2 : i < its.length := (List.getElem?_eq_some_iff.mp hv2).1
    obtain ⟨a, ha⟩ : ∃ a, xs[i]? = some a := ⟨xs[i]'(by omega), List.getElem?_eq_getElem _⟩
    obtain ⟨b, ys, rfl, hb, hk⟩ := hit i a ha
    obtain ⟨u, hu, ru⟩ := rv.get ha
    rw [hv2] at hu
    cases hu
    obtain rfl : v = Value.ref b := ru
    obtain ⟨zs, rz, pz, hz2⟩ := I1.tuple hb
    obtain ⟨u, hu, ru⟩ := rz.get hk
    obtain ⟨t, rfl⟩ := (show ∃ t, u = Value.int (ns.getD i 0) t from ru)
    exact ⟨b, zs.toArray, t, rfl, pz, by rw [List.size_toArray, ← rz.length]; exact hz2, by simpa using hu⟩
  refine wpAny_pyIter_tuple hIL ?_
  generalize ho : ({ cls := .type "tuple_iterator", data := .fields #[.ref yl, .int 0 0] } : Obj) = o
  have hitr : (s1.heap.push o).IsTupleIter s1.heap.objs.size yl 0 := by
    subst ho
    exact ⟨_, Heap.get?_push_size _ rfl, rfl, rfl⟩
  have hylt : yl < s1.heap.objs.size := by
    obtain ⟨_, e, _⟩ := _root_.id hIL
    exact Heap.lt_size e
  have hPs : s1.heap.get? P = some { cls := .none, data := .fields ps } := I1.hok P _ hP
  have hPlt : P < s1.heap.objs.size := Heap.lt_size hPs
  have hP2 : (s1.heap.push o).get? P = some { cls := .none, data := .fields ps } := Heap.get?_push_of_some _ hPs
  have cd : PySem.W.CodeHd (s1.heap.push o) c P := TB.code.keeps fun b u e => Heap.get?_push_of_some _ (I1.bk b u e)
  have lim2 : (s1.heap.push o).NoLimit := I1.nolimit.push o
  have cont : ∀ (code : Value) (h3 : Heap) (tk : Nat) (ps' : Array Value), Heap.ExtBut P (s1.heap.push o) h3 → (s1.heap.push o).objs.size ≤ h3.objs.size → h3.get? P = some { cls := .none, data := .fields ps' } → (∃ more, ps' = ps ++ more) → TriplesOk ps'.toList →
      wpAny (model X.prog X.w) X.A (builtinsFor X.env.globals X.env.builtins) (fun bi s₄ =>
        ∃ Ia fp wr n₀ Pf St₀ pz F, Value.ref s1.heap.objs.size = .ref Ia ∧ (∀ A' : Around, A'.handled = none → Walks X.prog X.w A' Ia fp wr n₀ Pf St₀) ∧ St₀ 0 s₄.heap ∧ (∀ b ∈ fp, b < s₄.heap.objs.size) ∧ s₄.heap.NoLimit ∧ cStatics ∉ wr ∧
          (∀ href : Heap, (∀ b o, s₄.heap.get? b = some o → href.get? b = some o) →
            QuietGen X.prog X.w (genEnv scope (cloFrom X.env.cells scope.names []) s₄.heap.objs.size code bi X.env) x [] (.Subscript (.Name x p1) (.Constant (.int (k : Int)) j p2) p3) (List.range s₄.heap.objs.size) wr Pf pz F href) ∧
          (∀ a h₅ tk gs, gs.bare = true → s₄.heap.objs.size < a → h₅.objs.size = a + 1 → (∀ b o, s₄.heap.get? b = some o → h₅.get? b = some o) →
            WalksS X.prog X.w X.A.in4 a (a :: s₄.heap.objs.size :: List.range s₄.heap.objs.size) (s₄.heap.objs.size :: wr) (GenOnlyQ s₄.gens.size) (passing pz n₀ 0).length
              (fun j y => ∃ i, (passing pz n₀ 0)[j]? = some i ∧ F i y) (GenAt X.prog X.w X.A.in4 a s₄.gens.size s₄.heap.objs.size (List.range s₄.heap.objs.size) wr pz n₀ F) →
            GenAt X.prog X.w X.A.in4 a s₄.gens.size s₄.heap.objs.size (List.range s₄.heap.objs.size) wr pz n₀ F 0 { s₄ with gens := s₄.gens.push gs, toks := tk, heap := h₅ } →
            Q' (.ref a) { s₄ with gens := s₄.gens.push gs, toks := tk, heap := h₅ })) X.xe { s1 with heap := h3, toks := tk } := by
    intro code h3 tk ps' hx hsz hP3 hmore ht3
    obtain ⟨bm, ob, e1, e2, e3, e4, e5, e6, e7, e8⟩ := TB.bm
    have hcP : cStatics ≠ P := fun e => by
      obtain ⟨_, hns, _⟩ := I1.nolimit
      obtain ⟨o', es, ep, ho, hd, _⟩ := hns
      rw [e, hPs] at ho
      cases ho
      cases hd
    have hcl : cStatics < s1.heap.objs.size := let ⟨_, hns, _⟩ := I1.nolimit; hns.lt
    have sz2 : (s1.heap.push o).objs.size = s1.heap.objs.size + 1 := Heap.size_push ..
    have keep3 : ∀ b u, b ≠ P → s1.heap.get? b = some u → h3.get? b = some u := fun b u hb e => hx b u hb (Heap.get?_push_of_some _ e)
    refine wpAny_builtinsFor (m := X.mg) (by rw [I1.ok.glob]; exact ((I1.mod.glob.keeps I1.bk).push o).extBut hx TB.gP) e1 e2 (keep3 _ _ e4 (I1.bk _ _ e5)) e6 e7 e8 ?_
    have notP : ∀ {b : Addr} {zs : Array Value}, IsTup s1.heap b zs → b ≠ P := fun {b zs} hb z => by
      obtain ⟨_, e, hc1, _, hd1⟩ := _root_.id hb
      rw [z, hPs] at e
      cases e
      cases hd1
    have hIL3 : h3.IsTuple yl its.toArray := by
      obtain ⟨ob, e, r⟩ := _root_.id hIL
      exact ⟨ob, keep3 _ _ (notP hl) e, r⟩
    have hItr3 : h3.IsTupleIter s1.heap.objs.size yl 0 := hitr.at fun u e => hx _ u (Nat.ne_of_gt hPlt) e
    refine ⟨s1.heap.objs.size, [s1.heap.objs.size, yl], [s1.heap.objs.size], its.toArray.size, (fun i v => its.toArray[i]? = some v), (fun i h => h.IsTupleIter s1.heap.objs.size yl i ∧ h.IsTuple yl its.toArray), (fun _ => true),
      (fun i y => ∃ (t : Tok), i < ns.length ∧ y = .int (ns.getD i 0) t), rfl, (fun A' hA => Walks.tuple hA _ _ (Nat.ne_of_lt hylt) _), ⟨hItr3, hIL3⟩, ?_, lim2.extBut hx hcP, ?_, ?_, ?_⟩
    · intro b hb
      rcases List.mem_cons.mp hb with z | z
      · rw [z]
        show s1.heap.objs.size < h3.objs.size
        omega
      · rcases List.mem_cons.mp z with z | z
        · rw [z]
          have e9 : s1.heap.objs.size ≤ h3.objs.size := by omega
          exact Nat.lt_of_lt_of_le hylt e9
        · cases z
    · intro z
      rcases List.mem_cons.mp z with z | z
      · exact Nat.ne_of_lt hcl z
      · cases z
    · intro href hhref
      refine ⟨fun A' E' i v s₂ m₂ hA hPv hn hm hk => ?_, fun A' E' i v s₂ m₂ hA hPv hp hn hm hk => ?_⟩
      · simp only [List.forIn_nil]
        exact wpAny_pure ⟨rfl, GxR.keeps_refl _⟩
      · obtain ⟨b, zs, t, rfl, hb, hz2, hzk⟩ := hat i v hPv
        have hi2 : i < ns.length := by
          have := (Array.getElem?_eq_some_iff.mp hPv).1
          rw [List.size_toArray] at this
          omega
        have hb2 : IsTup s₂.heap b zs := by
          obtain ⟨ob, e, r⟩ := _root_.id hb
          have hlt := Heap.lt_size e
          refine ⟨ob, hk b (List.mem_range.mpr ?_) (fun z => ?_) ob (hhref b ob (keep3 b ob (notP hb) e)), r⟩
          · exact Nat.lt_of_lt_of_le hlt (by omega : s1.heap.objs.size ≤ h3.objs.size)
          · rcases List.mem_cons.mp z with z | z
            · exact Nat.ne_of_lt hlt z
            · cases z
        exact wpAny_mono (elt_ix (scope := scope) S.kind S.loc hd rfl hn hm hb2 hz2 hzk) (fun y s3 r => ⟨⟨t, hi2, r.1⟩, r.2⟩) fun _ _ e => e
    · intro g h5 tk5 gs hgb hag hsz5 hk5 W5 hgat
      simp only [GxR.passing_true, List.length_range] at W5
      have hn5 : its.toArray.size = ns.length := by rw [List.size_toArray, hlen]
      rw [hn5] at W5 hgat
      refine hQ ns H1 g _ q1 ⟨_, _, _, _, _, W5.in4_1, hgat, ?_, ?_, fun s' hm => ?_⟩
      · intro b hb
        show b < h5.objs.size
        have e5 : h5.objs.size = g + 1 := hsz5
        have h8 : h3.objs.size < g := hag
        rw [e5]
        rcases List.mem_cons.mp hb with z | z
        · rw [z]
          exact Nat.lt_succ_self g
        · rcases List.mem_cons.mp z with z | z
          · rw [z]
            exact Nat.lt_succ_of_lt h8
          · have z2 := List.mem_range.mp z
            have h7 : b < h3.objs.size := z2
            exact Nat.lt_succ_of_lt (Nat.lt_trans h7 h8)
      · intro j v hv
        obtain ⟨i, hij, t, hi3, e⟩ := hv
        obtain ⟨hj, ej⟩ := List.getElem?_eq_some_iff.mp hij
        rw [List.getElem_range] at ej
        subst ej
        exact ⟨t, e⟩
      · obtain ⟨more, em⟩ := hmore
        have nwr : ∀ b u, s1.heap.get? b = some u → b ∉ h3.objs.size :: [s1.heap.objs.size] := fun b u e hb => by
          have hl := Heap.lt_size e
          rcases List.mem_cons.mp hb with z | z
          · rw [z] at hl
            have h9 : (h3.objs.size : Nat) < s1.heap.objs.size := hl
            omega
          · rcases List.mem_cons.mp z with z | z
            · rw [z] at hl
              exact Nat.lt_irrefl _ hl
            · cases z
        have J := GxR.inv_tab (more := more) (h' := s'.heap) (g' := s'.gens) (d' := s'.drawn) (t' := s'.toks) I1 hP (fun b u hb e => hm.heap b u (nwr b u e) (hk5 b u (keep3 b u hb e)))
          (by rw [← em]; exact hm.heap P _ (nwr P _ hPs) (hk5 P _ hP3)) (AllBare.movedS (I1.bare.push hgb) hm)
        rw [GxR.sh_eta s1 s' hm.os] at J
        refine ⟨upd H1 P (.tbl (ps ++ more)), ⟨⟨ps ++ more, upd_same, by rw [← em]; exact ht3⟩, fun b hb => upd_ne hb⟩, J⟩
  refine ⟨lim2, ?_⟩
  cases hf : codeAmong gpos ps.toList with
  | none =>
    refine wpAny_genexprCodeX hcode (cd.code hP2 ht) (cd.tab hP2) hf fun c' h' tk hx hge hlt hco' _ htab' _ => ?_
    obtain ⟨o1, vs, f1, tf, fl, tg, inF, tx, tt, op, _, _, _, _, _, _, _, _, _, htr, _⟩ := hco'
    exact cont _ h' tk _ hx (Nat.le_trans hge (Nat.le_of_lt hlt)) htab'.2 ⟨_, rfl⟩ htr
  | some cv =>
    refine wpAny_genexprCode_hit hcode (cd.code hP2 ht) hf ?_
    exact cont cv (s1.heap.push o) s1.toks ps (Heap.ExtBut.refl _ _) (Nat.le_refl _) hP2 ⟨#[], by simp⟩ ht
/-- sum(x[k] for x in e), e a tuple of tuples -/
def tSumN (K : PySem.W.Frag) (P : Addr) (k : Nat) (te : TE) : TE := fun σ H Q => te σ H fun v H1 => ∃ (yl : Addr) (xs : List V) (ns : List Int), v = .ref yl ∧ SqT K H1 yl xs ∧ ItemsK K H1 k xs ns ∧ GxR.TabG H1 P ∧ ∀ H2, GxR.Tabbed P H1 H2 → Q (.int ns.sum) H2
theorem preSum_is (ns : List Int) : ∀ n, n ≤ ns.length → preSum (fun j => ns.getD j 0) n = (ns.take n).sum
  | 0, _ => rfl
  | n + 1, h => by
    have h0 : n < ns.length := by omega
    have e : ns[n]? = some (ns.getD n 0) := by
      rw [List.getD_eq_getElem?_getD, List.getElem?_eq_getElem h0]; rfl
    show preSum (fun j => ns.getD j 0) n + ns.getD n 0 = _
    rw [preSum_is ns n (by omega), List.take_succ, e]
    simp
theorem pe_sumN {c P : Addr} {iter : Expr} {x : Str} {px p pos gpos p1 p2 p3 : Pos} {scope : Scope} {te : TE} {kk k j : Nat}
    (hr : Room kk X.A) (hg : Gl X "sum") (hm : X.mg "sum" = none) (TB : GxR.TabB X.base X.mg c P) (hcode : X.env.code = .ref c) (S : GxR.GenS X.env scope x) (hi : PE X iter te) (hd : (x == ("__debug__" : Str)) = false)
    (hs : ∀ v, genFold iter X.env v = pure v)
    (he : starEach [.GeneratorExp (.Subscript (.Name x p1) (.Constant (.int (k : Int)) j p2) p3) [⟨.Name x px, iter, [], 0⟩] scope gpos] X.env = (false, eval (.GeneratorExp (.Subscript (.Name x p1) (.Constant (.int (k : Int)) j p2) p3) [⟨.Name x px, iter, [], 0⟩] scope gpos) X.env) :: starEach [] X.env := by rfl) :
    PE X (.Call (.Name "sum" p) [.GeneratorExp (.Subscript (.Name x p1) (.Constant (.int (k : Int)) j p2) p3) [⟨.Name x px, iter, [], 0⟩] scope gpos] [] pos) (tSumN X.K P k te) := by
  refine ⟨fun pins s σ H Q I h => ?_⟩
  refine wpAny_Call_Name_kw (ld_blt I hg hm (by decide +kernel : bootBuiltins "sum" = some (.builtin "sum")) ?_)
  refine PyProof.Rows.callWith_builtin1 ?_ he (by rfl)
  rw [he]
  show wpAny _ _ (spliced ((false, eval (.GeneratorExp (.Subscript (.Name x p1) (.Constant (.int (k : Int)) j p2) p3) [⟨.Name x px, iter, [], 0⟩] scope gpos) X.env) :: backTo pos (starEach [] X.env))) _ _ s
  refine Calls.spliced_cons (gen_tup (R := fun ns H1 => ∀ H2, GxR.Tabbed P H1 H2 → Q (.int ns.sum) H2) hr TB hcode S hi hd hs I h fun ns H1 g s5 hR hG => ?_)
  obtain ⟨fp, wr, G, F, St, W, hst, hfp, hv, hI⟩ := hG
  refine Calls.spliced_nil ?_
  refine call_sum_walkAnyS (W.self 0 _ _ _ hst ⟨g, fp, wr, G, _, F, St, fun j => ns.getD j 0, rfl, W, hst, hfp, hv, fun s' t' hmv => ?_⟩)
  obtain ⟨H2, hT, J⟩ := hI s' hmv
  refine ⟨.int _, H2, J, ⟨t', ?_⟩, hR H2 hT⟩
  rw [preSum_is ns ns.length (Nat.le_refl _), List.take_length]
end
end TpG

namespace Tp
open PySem L2
/-! ### sum of a generator expression -/
section
variable {X : Cx} {B : Bx} {W : WX} {r : List Sl} {e : Expr} {pos p : Pos} {kk : Nat}
theorem evSumG {α : Type} {L : List α} {gd : α → D} {f : α → Int} {k j : Nat} {c Pt : Addr} {x : Str} {px gpos p1 p2 p3 : Pos} {scope : Scope} (g : Go X W kk) (he : ES X B e r true (L.map gd)) (hf : ∀ u, ∃ ys, gd u = .tuple ys ∧ ys[k]? = some (.int (f u))) (TB : GxR.TabB X.base X.mg c Pt) (hcode : X.env.code = .ref c) (hP : Pt ∈ B.ts) (hm : X.mg "sum" = none)
    (hg : Gl X "sum" := by rfl) (S : GxR.GenS X.env scope x := by exact ⟨rfl, rfl, by decide +kernel, rfl, rfl, fun y hy h => absurd h (by revert y; decide +kernel)⟩) (hd : (x == ("__debug__" : Str)) = false := by decide) (hs : ∀ v, genFold e X.env v = pure v := by intro _; rfl)
    (hst : starEach [.GeneratorExp (.Subscript (.Name x p1) (.Constant (.int (k : Int)) j p2) p3) [⟨.Name x px, e, [], 0⟩] scope gpos] X.env = (false, eval (.GeneratorExp (.Subscript (.Name x p1) (.Constant (.int (k : Int)) j p2) p3) [⟨.Name x px, e, [], 0⟩] scope gpos) X.env) :: starEach [] X.env := by rfl) :
    EV X B (.Call (.Name "sum" p) [.GeneratorExp (.Subscript (.Name x p1) (.Constant (.int (k : Int)) j p2) p3) [⟨.Name x px, e, [], 0⟩] scope gpos] [] pos) r (.int (L.map f).sum) := by
  obtain ⟨t, pp, q⟩ := he
  refine ⟨_, TpG.pe_sumN g.hr hg hm TB hcode S pp hd hs hst, fun H σ S Q z => q H σ S _ fun a vs H1 s1 y ra => ?_⟩
  have S1 := S.mono s1
  obtain ⟨ps, hps, htr⟩ := S1.tb Pt hP
  refine ⟨a, vs, L.map f, rfl, y, ⟨by rw [ra.len, List.length_map, List.length_map], fun i v hv => ?_⟩, ⟨ps, hps, htr⟩, fun H2 hT => ?_⟩
  · obtain ⟨d, hd1, rd⟩ := ra.getV hv
    rw [List.getElem?_map] at hd1
    cases hu : L[i]? with
    | none => rw [hu] at hd1; cases hd1
    | some u =>
      rw [hu] at hd1
      obtain ⟨ys, e1, e2⟩ := hf u
      have e3 : d = .tuple ys := by rw [← e1]; exact (Option.some.inj hd1).symm
      subst e3
      cases rd with
      | tup h1 h2 =>
        obtain ⟨w, hw, rw'⟩ := h2.get e2
        cases rw'
        refine ⟨_, _, rfl, seqT hide_same h1, ?_⟩
        rw [hw, List.getD_eq_getElem?_getD, List.getElem?_map, hu]
        rfl
  · obtain ⟨⟨qs, e1, e2⟩, e3⟩ := hT
    have s2 : Same H1 H2 := fun b o eo => by
      by_cases hb : b = Pt
      · subst hb
        rw [hps] at eo
        cases eo
        exact .inr ⟨ps, qs, rfl, e1, fun _ => e2⟩
      · rw [e3 b hb]
        exact .inl eo
    exact z _ H2 (s1.trans s2) (.int _)
end
/-- a def over data whose code object is known -/
theorem fn_dC {P : Program} {w : World} {T : List Addr} {K : PySem.W.Frag} {mg : Str → Option Value} {base : Heap} {x qual : Str} {st : Stmt} {f cd : Addr} {fd : FuncData} {N ps : List Str} {k : Nat} {c : Ct} (F : Fun K x qual st f fd) (hcd : fd.code = .ref cd) (S : FnScope N ps (defScope st))
    (hl : ∀ ds Q E, c ds Q E → ds.length = ps.length)
    (body : ∀ (A : Around) (outer : List Env) (s : Shared) (H H0 : Hp) (E : XK) (qs : List Addr) (ds : List D) (Q : Rs → Prop) (Ex : Addr → Prop), Go (cxOf (L2.CX P w) P w K mg base N qual (defScope st) f (.ref cd) A outer s H E) (fun cls d _ H => E cls d H) k → c ds Q Ex →
      SV (cxOf (L2.CX P w) P w K mg base N qual (defScope st) f (.ref cd) A outer s H E) ⟨H0, qs, T, []⟩ (fun cls d _ H => E cls d H) (defBody st) (ini N ds) { nx := fun _ => Q (.da .none), rt := fun s _ => Q s, ex := fun C _ => Ex C }) :
    FnOk P w K mg base (L2.CX P w) (k + 1) f fd ps (spD T K c) := by
  have hN : ps.length ≤ N.length := by
    have := congrArg List.length S.pre
    rw [List.length_take] at this
    omega
  obtain ⟨oc, od, kV, doc, pm, an, cdv, ct, osl, e, lk, hc⟩ := F.ex
  subst e
  have e2 : cdv = .ref cd := hcd
  subst e2
  refine fn_of lk hc S (fun vs H Q E h => ?_) fun A outer s H vs Q E hr h => ?_
  · obtain ⟨qs, ds, Po, Ex, _, _, ra, hc, _⟩ := h
    rw [ra.len]
    exact hl _ _ _ hc
  · obtain ⟨qs, ds, Po, Ex, tb, hp, ra, hc, k1, k2⟩ := h
    have G : Go (cxOf (L2.CX P w) P w K mg base N qual (defScope st) f (.ref cd) A outer s H E) (fun cls d _ H => E cls d H) k :=
      ⟨hr, rfl, passes_of rfl, takes_of rfl rfl rfl rfl, S.nd⟩
    refine ⟨_, wS_ok, body A outer s H H E qs ds Po Ex G hc H _ _ (sok_ini tb hp ra (by rw [hl _ _ _ hc]; exact hN)) ⟨fun r σ' H' S' hq => ?_, fun s v r σ' H' S' y hq => k1 s v H' S'.ex (y.sub fun p hp => List.mem_append_right _ hp) hq, fun _ _ _ _ z => z.elim, fun _ _ _ _ z => z.elim, fun C r σ' H' S' hx => k2 C H' S'.ex hx⟩⟩
    exact k1 (.da .none) .non H' S'.ex (show Rp K _ V.non .none from .non) hq
/-! ### the head -/
theorem dfl_none {K : PySem.W.Frag} {dV : Value} (h : DflV K dV []) : dV = .none := h.elim (fun z => z.2) fun z => absurd rfl z.1
theorem fun_D {K : PySem.W.Frag} {x qual : Str} {st : Stmt} {f : Addr} {fd : FuncData} {kws : List (Str × V)} (F : FunD K x qual (defArgs st) (defBody st) (defScope st) [] kws f fd) : Fun K x qual st f fd := by
  obtain ⟨oc, od, dV, kV, doc, pm, an, cdv, ct, osl, e, lk, hcd, hD, hK⟩ := F.ex
  have := dfl_none hD
  subst this
  exact ⟨⟨oc, od, kV, doc, pm, an, cdv, ct, osl, e, lk, hcd⟩, F.kp⟩
theorem code_D {K : PySem.W.Frag} {p : He.Defn} {x qual : Str} {pr : Arguments} {b : List Stmt} {sc : Scope} {fd : FuncData} {dvs : List V} {kws : List (Str × V)} (F : FunD K x qual pr b sc dvs kws (He.fAd K p) fd) : fd.code = .ref (He.cT K p).1 := by
  obtain ⟨oc, od, dV, kV, doc, pm, an, cdv, ct, osl, e, lk, hcd, hD, hK⟩ := F.ex
  obtain ⟨c, e2⟩ := He.codeIn_ref hcd
  subst e
  have e3 : (PySem.W.fnOf x qual pr b sc dV kV doc pm an cdv ct).code = .ref c := e2
  rw [e3]
  show _ = Value.ref (He.codeOf K p)
  rw [He.codeOf_eq lk e3]
/-- a keyword-only default that is an object -/
def kwdAt (p : He.Defn) (x : Str) (K : PySem.W.Frag) : Addr := match K.lookup (He.fAd K p) with
  | some ⟨_, _, .func fd, _⟩ => (match fd.kwdefaults with
    | .ref D => (match PySem.W.nsIn K D x with
      | some (some (.ref a)) => a
      | _ => 0)
    | _ => 0)
  | _ => 0
def tupI (K : PySem.W.Frag) (a : Addr) (ns : List Int) : Bool := match K.lookup a with
  | some ⟨.type c, _, .seq its _, _⟩ => decide (c = "tuple") && (decide (its.size ≤ sizeLine) && He.relAll (ns.map V.int) its.toList)
  | _ => false
theorem tupI_ok {K : PySem.W.Frag} {a : Addr} {ns : List Int} (h : tupI K a ns = true) (H : Hp) : SqT K H a (ns.map V.int) := by
  unfold tupI at h
  cases q : K.lookup a with
  | none => rw [q] at h; cases h
  | some o =>
    obtain ⟨oc, od, dt, osl⟩ := o
    rw [q] at h
    cases oc with
    | type c =>
      cases dt with
      | seq its n =>
        obtain ⟨h1, h2⟩ := He.ba (show (decide (c = "tuple") && (decide (its.size ≤ sizeLine) && He.relAll (ns.map V.int) its.toList)) = true from h)
        obtain ⟨h3, h4⟩ := He.ba h2
        exact .inr ⟨_, its, n, q, congrArg Value.type (of_decide_eq_true h1), rfl, of_decide_eq_true h3, He.relAll_ok h4⟩
      | _ => cases h
    | _ => cases dt <;> cases h
theorem tupI_rp {K : PySem.W.Frag} {a : Addr} {ns : List Int} (h : tupI K a ns = true) : Rp K (fun _ => none) (.ref a) (.tuple (ns.map PyData.int)) := .tup (tupI_ok h _) RpA.ints
def subB (K : PySem.W.Frag) (a b : Addr) (k : Bool) : Bool := decide (PySem.W.subIn K (.ref a) (.ref b) = some k)
def excB (K : PySem.W.Frag) (C : Addr) : Bool :=
  He.eqO (PySem.W.findIn K (.ref C) "__getattribute__") (some (some (.builtin "BaseException.__getattribute__"))) && (He.eqO (PySem.W.findIn K (.ref C) "__getattr__") (some none) && (decide (PySem.W.subIn K (.ref C) (.type "BaseException") = some true) && (PySem.W.hasDictIn K C && (He.eqO (PySem.W.findIn K (.ref C) "__class__") (some (some (.builtin "object.__class__"))) &&
    (He.eqO (PySem.W.specialIn K (.builtin "object.__class__") "__get__") (some (some (.builtin "getset_descriptor.__get__"))) && (decide (PySem.W.takesIn K (.builtin "object.__class__") = some true) && decide (PySem.W.mroIn K C (.type "object") = some true)))))))
theorem excB_ok {K : PySem.W.Frag} {C : Addr} (h : excB K C = true) : ExcC K C := by
  obtain ⟨h1, h⟩ := He.ba h
  obtain ⟨h2, h⟩ := He.ba h
  obtain ⟨h3, h⟩ := He.ba h
  obtain ⟨h4, h⟩ := He.ba h
  obtain ⟨h5, h⟩ := He.ba h
  obtain ⟨h6, h⟩ := He.ba h
  obtain ⟨h7, h8⟩ := He.ba h
  exact ⟨He.eqO_ok h1, He.eqO_ok h2, of_decide_eq_true h3, h4, He.eqO_ok h5, He.eqO_ok h6, of_decide_eq_true h7, of_decide_eq_true h8⟩
theorem xct_ok {K : PySem.W.Frag} {h : Heap} {mg : Str → Option Value} {x : Str} (X : K.In h) (G : h.Ns mainGlobals mg) (c1 : (He.Fa.glo x).ok K = true) (c2 : (He.Fa.exc x).ok K = true) (c3 : excB K (He.ga K x) = true) : XcT K mg x (He.ga K x) := by
  obtain ⟨e1, e2, e3, e4⟩ := He.exc_ok c2
  exact ⟨He.glo_ok X G c1, e2, e1, e4, excB_ok c3⟩
/-- a law's promise -/
def LawC (c : Ct) : Prop := ∀ ns : List Int, ns.length ≤ 63 → c [.list (ns.map PyData.int)] (fun s => s = .da (.bool true)) fun _ => False
theorem law_at {l : PySem.W.OpenLaw} {w : World} {K : PySem.W.Frag} {k : Nat} {x : Str} {mg : Str → Option Value} {fa : Addr} {h : Heap} {fd : FuncData} {cs : List (Addr × Addr)} {c : Ct} (X : K.In h) (hT : ∀ p ∈ cs, h.get? p.2 = some { cls := .none, data := .fields #[] }) (nT : ∀ p ∈ cs, K.lookup p.2 = none) (C : ∀ p ∈ cs, PySem.W.codeHdIn K p.1 p.2 = true)
    (hb : ∀ (s : Shared) (u : Value), BindsTo s fd ⟨[u], []⟩ [(x, u)]) (hc : LawC c)
    (F : ∀ base : Heap, K.In base → base.Ns mainGlobals mg → (∀ p ∈ cs, GxR.TabB base mg p.1 p.2) → FnOk l.prog w K mg base (L2.CX l.prog w) k fa fd [x] (spD (cs.map (·.2)) K c)) : LamX.LawAtS l w K (L2.CX l.prog w) k 63 x mg fa h :=
  ⟨fd, cs, spD (cs.map (·.2)) K c, hT, nT, fun p hp => PySem.W.codeHd_of_K X (C p hp), hb, fun H a ns hl _ hH hS => ⟨[], [.list (ns.map PyData.int)], fun s => s = .da (.bool true), fun _ => False, fun t ht => by
    obtain ⟨p, hp, e⟩ := List.mem_map.mp ht
    subst e
    exact ⟨#[], hH p hp, trivial⟩, (fun _ z => by cases z), .one (.lst (Same.seq (fun a o e => by rw [hide_out (List.not_mem_nil)]; exact .inl e) hS) RpA.ints), hc ns hl, fun s v H' _ y e => by subst e; cases y; rfl, fun _ _ _ z => z⟩, fun base B1 B2 B3 => F base B1 B2 fun p hp => ⟨(B3 p hp).code, (B3 p hp).bm, (B3 p hp).gP⟩⟩
end Tp

/-! set comprehensions, whatever the set holds -/
namespace TpS
open PySem PySem.Spec PyProof.Rows L2 PpSet
section
variable {X : Cx}
/-- a family of sets: So D c is the set at D in the state c; Ok asks of the item, Af tells the state behind an addition -/
structure Fam (X : Cx) (κ γ : Type) where
  So : Addr → γ → HO
  c0 : γ
  Ok : Addr → V → κ → γ → Hp → Prop
  Af : V → κ → γ → γ → Prop
  new : ∀ (H : Hp) (h : Heap), ObjOk X.prog X.w H (h.push { cls := .type "set", dict := none, data := .set #[] 0 (.fresh 0 0 (!X.w.params.followText "set-order")) }) h.objs.size (So h.objs.size c0)
  add : ∀ {Y : Cx} {pins : List (Addr × Obj)} {σ : L2.St} {H : Hp} {s : Shared} {E : Value → Shared → Prop} {D : Addr} {k : κ} {c : γ} {y : V} {u : Value} {Q : Value → Shared → Prop}, Y.prog = X.prog → Y.w = X.w → Y.K = X.K → Y.A = X.A → Inv Y pins σ H s → RelV y u → H D = some (So D c) → Ok D y k c H →
    (∀ s' c', Inv Y pins σ (upd H D (So D c')) s' → Af y k c c' → Q .none s') → wpAny (model Y.prog Y.w) Y.A (call (.builtin "set.add") [.ref D, u]) Q E s
variable {κ γ : Type}
/-- {elt for tg in iter if ..}: W is kept by every turn -/
def tScG (F : Fam X κ γ) (wi : TI) (g : TG) (tt : TT) (te : TE) (vs : List Nat) : TE := fun σ H Q => wi σ H fun J H1 => ∀ D, H1 D = none → ∃ W : Nat → Nat → Hp → Prop, (∃ m, W 0 m (upd H1 D (F.So D F.c0))) ∧ ∀ i m H, W i m H →
  (J.stop i H ∧ Q (.ref D) H) ∨ (J.go i H ∧ ∃ Nx : Hp → Prop, (∀ H', Nx H' → ∃ m', m' < m ∧ W (i + 1) m' H') ∧ ∀ x H', J.yld i H x H' → g x (wipe σ vs) H' fun σ2 H2 => wipe σ2 vs = wipe σ vs ∧ tt σ2 H2 fun b H3 =>
    if b = true then te σ2 H3 fun y H4 => ∃ c k, H4 D = some (F.So D c) ∧ F.Ok D y k c H4 ∧ ∀ c', F.Af y k c c' → Nx (upd H4 D (F.So D c')) else Nx H3)
abbrev BlkOf (X : Cx) (s : Shared) (H : Hp) (scope : Scope) (cl : List (PySem.Str × Addr)) (C : Addr) (fp : List Addr) : Cx := X.blk s H scope (compEnvC scope cl C X.env) fp
theorem pe_scG (F : Fam X κ γ) {elt tg iter : Expr} {ifs : List Expr} {scope : Scope} {own : List (PySem.Str × Nat)} {pos : Pos} {wi : TI} {g : TG} {tt : TT} {te : TE} (hc : X.calm = true) (hN : X.N.Nodup) (hi : PI X tg iter wi) (ok : BlkOk X.N X.env.scope scope own)
    (hg : ∀ s H C cl fp, PG (BlkOf X s H scope cl C fp) tg g) (ht : ∀ s H C cl fp, PTs (BlkOf X s H scope cl C fp) ifs tt) (he : ∀ s H C cl fp, PE (BlkOf X s H scope cl C fp) elt te) (hs : ∀ x, foldedSetIterable iter X.env x = pure x := by intro _; rfl) :
    PE X (.SetComp elt [⟨tg, iter, ifs, 0⟩] scope pos) (tScG F wi g tt te (own.map (·.2))) := by
  refine ⟨fun pins s σ H Q I h => ?_⟩
  rw [eval_SetComp]
  have free : ∀ y ∈ scope.names, y.2 = .free → ∃ c, X.env.cells.lookup y.1 = some c := fun y hy e => (ok.free y hy e).elim (fun k => I.ok.has _ (.inl k)) fun k => I.ok.has _ (.inr k)
  refine wpAny_comprehension_free (use := none) rfl hs (closure_ok free) ok.kind (fun y hy e => by rw [ok.uniq y hy, e]) (thn (hi.run pins s σ H _ I h) fun xv s1 hx => thn hx fun itv s2 h2 => ?_)
  obtain ⟨it, fp, tn, J, H2, e, I2, T, st2, f2, q⟩ := h2
  subst e
  refine newSet_ok (newEnv_comp ?_)
  generalize hD : s2.heap.objs.size = D
  have hDn : H2 D = none := I2.hok.fresh (Nat.le_of_eq hD)
  obtain ⟨W, ⟨m0, w0⟩, turn⟩ := q D hDn
  -- the new set stands
  obtain ⟨s3, e3⟩ : ∃ z : Shared, z = { s2 with heap := s2.heap.push { cls := .type "set", dict := none, data := .set #[] 0 (.fresh 0 0 (!X.w.params.followText "set-order")) } } := ⟨_, rfl⟩
  have up3 : ∀ b o, s2.heap.get? b = some o → s3.heap.get? b = some o := fun b o z => by rw [e3]; exact Heap.get?_push_of_some _ z
  obtain ⟨H3, eH⟩ : ∃ z : Hp, z = upd H2 D (F.So D F.c0) := ⟨_, rfl⟩
  have I3 : Inv X pins σ H3 s3 := by
    rw [e3, eH]
    refine I2.laid (t' := s2.toks) (fun b o e => Heap.get?_push_of_some _ e) (Nat.le_of_eq hD) ?_
    rw [← hD]
    exact F.new _ _
  have f3 : ∀ b ∈ fp, FpOk X pins H3 b ∧ b < s3.heap.objs.size := fun b hb => by
    obtain ⟨o, e, _⟩ := T.obj _ _ st2 b hb
    have lt := Heap.lt_size e
    refine ⟨⟨?_, (f2 b hb).2⟩, by rw [e3, Heap.size_push]; exact Nat.lt_succ_of_lt lt⟩
    rw [eH, upd_ne (by rw [← hD]; exact Nat.ne_of_lt lt)]
    exact (f2 b hb).1
  have I4 := block_start I3 ok hN f3
  rw [← eH] at w0
  rw [← e3]
  generalize hcl : cellsFrom (s3.heap.objs.size + 1) scope.names (cloFrom X.env.cells scope.names []) = cl at I4
  have pg := hg s3 H3 s3.heap.objs.size cl fp
  have pt := ht s3 H3 s3.heap.objs.size cl fp
  have pe := he s3 H3 s3.heap.objs.size cl fp
  obtain ⟨s4, e4⟩ : ∃ z : Shared, z = { s3 with heap := pushCells (s3.heap.push { cls := .type "dict", data := .dict #[] }) scope.names } := ⟨_, rfl⟩
  rw [← e4] at I4
  have st4 : tn 0 s4.heap := T.keep _ _ _ st2 fun b _ o e => by rw [e4]; exact pushCells_keeps _ _ _ _ (Heap.get?_push_of_some _ (up3 b o e))
  have at_ : ∀ {σ' : L2.St} {H' : Hp} {s' : Shared}, Inv (BlkOf X s3 H3 scope cl s3.heap.objs.size fp) [] σ' H' s' → (∀ b ∈ fp, H' b = none) → ∀ b ∈ fp, FpOk (BlkOf X s3 H3 scope cl s3.heap.objs.size fp) [] H' b := fun {σ' H' s'} I' hn b hb =>
    ⟨hn b hb, (I'.ok.exf b hb).1, I'.ok.exfs b hb, .inl hb, fun x c e => (I'.ok.exf b hb).2 x c e, fun p hp => absurd (show p ∈ ([] : List (Addr × Obj)) ++ [] from hp) (by simp)⟩
  let P5 : Nat → Shared → Prop := fun n s' => ∃ i H', Inv (BlkOf X s3 H3 scope cl s3.heap.objs.size fp) [] (wipe σ (own.map (·.2))) H' s' ∧ tn i s'.heap ∧ (∀ b ∈ fp, H' b = none) ∧ W i n H'
  have loop : codeAny (model X.prog X.w) X.A (.compLoop (.SetComp elt [⟨tg, iter, ifs, 0⟩] scope pos) 0 (.ref it) (.ref D) (compEnvC scope cl s3.heap.objs.size X.env)) (compPost (model X.prog X.w) X.A X.xe none (EP X pins σ Q) (.ref D) s3.heap.objs.size) s4 := by
    refine compLoopS_any P5 ?_ m0 ⟨0, H3, I4, st4, fun b hb => (f3 b hb).1.1, w0⟩
    rintro n s5 ⟨i, H5, I5, st5, n5, w5⟩
    rcases turn i n H5 w5 with ⟨stop, qq⟩ | ⟨go, Nx, hNx, step⟩
    · refine thnF (T.done (BlkOf X s3 H3 scope cl s3.heap.objs.size fp) rfl rfl rfl hc i [] s5 _ H5 (fun _ _ => False) I5 (at_ I5 n5) st5 stop) fun r s6 ⟨hr, I6⟩ => ?_
      subst hr
      have I7 : Inv X pins σ H5 s6 := I3.call' (ch := fp) I6.os I6.base I6.hok I6.bare fun b hb => let z := (f3 b hb).1.2; ⟨z.2.2.1, z.1, z.2.2.2.1, z.2.2.2.2⟩
      have nC : H5 s3.heap.objs.size = none := I6.free
      obtain ⟨m, hn, _⟩ := I6.loc
      have fC := I3.fpOk (Nat.le_refl _) nC
      refine ⟨m, hn, fun h'' sb => ?_⟩
      obtain ⟨f0, f1, f2, f3, f4, f5⟩ := fC
      exact ⟨.ref D, H5, I7.turned (t' := s6.toks) (fun b o hb e => (sb.2 b hb).trans e) f0 f1 f3 f4 f5, rfl, qq⟩
    · refine thnF (T.item (BlkOf X s3 H3 scope cl s3.heap.objs.size fp) rfl rfl rfl hc i [] s5 _ H5 (fun _ _ => False) I5 (at_ I5 n5) st5 go) fun r s6 ⟨u, hr, h6⟩ => ?_
      subst hr
      refine thnF h6 fun _ s7 ⟨x, H7, I7, r7, y7, st7, n7⟩ => ?_
      refine thnF (pg.run _ s7 _ H7 x u _ (I7.pinned (at_ I7 n7) (T.obj _ _ st7)) r7 (step x H7 y7)) fun _ s8 ⟨σ8, H8, I8, hw8, q8⟩ => ?_
      refine thnF (pt.run _ s8 σ8 H8 _ I8 q8) fun b s9 ⟨H9, I9, q9⟩ => ?_
      have fin : ∀ {s' : Shared} {H' : Hp}, Inv (BlkOf X s3 H3 scope cl s3.heap.objs.size fp) ([] ++ pinsAt fp s7.heap) σ8 H' s' → Nx H' → ∃ m, m < n ∧ P5 m s' := fun {s' H'} I' nx => by
        obtain ⟨m', hm, w'⟩ := hNx H' nx
        have pin : ∀ b ∈ fp, ∀ o, s7.heap.get? b = some o → s'.heap.get? b = some o ∧ H' b = none := fun b hb o e =>
          let z := I'.pin (b, o) (List.mem_append_right _ (List.mem_append_right _ (mem_pinsAt hb e))); ⟨z.1, z.2.1⟩
        refine ⟨m', hm, i + 1, H', (I'.unpinned (pins := [])).weak (by rw [← hw8, wipe_length]) (fun j v e => ?_), T.keep _ _ _ st7 fun b hb o e => (pin b hb o e).1, fun b hb => ?_, w'⟩
        · rw [← hw8] at e
          exact (wipe_some e).1
        · obtain ⟨o, e, _⟩ := T.obj _ _ st7 b hb
          exact (pin b hb o e).2
      cases b with
      | false =>
        simp only [Bool.false_eq_true, if_false] at q9 ⊢
        exact fin I9 q9
      | true =>
        simp only [if_true] at q9 ⊢
        refine thnF (pe.run _ s9 σ8 H9 _ I9 q9) fun z s10 ⟨yv, H10, I10, r10, c, kk, hD10, hok, nx⟩ => ?_
        exact F.add (Y := BlkOf X s3 H3 scope cl s3.heap.objs.size fp) rfl rfl rfl rfl I10 r10 hD10 hok fun s11 c' I11 af => fin I11 (nx c' af)
  rw [e4] at loop st4
  subst hcl
  exact codeAny_compStart_set loop (T.self X.A 0 _ _ _ st4 loop)
/-! ### sets of tuples of ints -/
theorem addT {pins : List (Addr × Obj)} {σ : L2.St} {H : Hp} {s : Shared} {E : Value → Shared → Prop} {D x : Addr} {k : List Int} {L : List (Addr × List Int)} {Q : Value → Shared → Prop} (I : Inv X pins σ H s) (hu : X.A.units + 64 < cLine) (hD : H D = some (SetTO X.prog X.w D L))
    (hL : ∀ p ∈ L, SqT X.K H p.1 (p.2.map V.int)) (hx : SqT X.K H x (k.map V.int)) (few : L.length + 1 < 64)
    (h : ∀ s' L', Inv X pins σ (upd H D (SetTO X.prog X.w D L')) s' → (k ∈ L.map (·.2) → L' = L) → (k ∉ L.map (·.2) → L'.Perm ((x, k) :: L)) → Q .none s') : wpAny (model X.prog X.w) X.A (call (.builtin "set.add") [.ref D, .ref x]) Q E s := by
  obtain ⟨es, ep, t, R⟩ := (show SetT0 X.prog X.w s.heap D L from (I.hok D _ hD).1).full fun p hp => I.isT (hL p hp)
  have hT : s.TypeIs (.ref D) "set" := by
    obtain ⟨o, ho, hex, hd⟩ := R.ob
    exact ⟨o, ho, hex.1⟩
  refine wpAny_call_entry F.slot_set_add hT F.entry_set_add ?_ (F.args_set_add_2 _ _)
  unfold Builtin.«set.add» Builtin.Frozenset.oneOther
  simp only [List.isEmpty_nil, bind_assoc]
  unfold Builtin.Frozenset.addrOf setAdd
  refine wpAny_bind (wpAny_pure ?_)
  try dsimp only
  refine wpAny_bind (wpAny_pure ?_)
  try dsimp only
  refine wpAny_bind (wpAny_holding ?_)
  refine wpAny_bind (wpAny_pyHash_tuple (by simp only [Around.in1_units]; omega) (I.isT hx) ?_)
  refine add_at (s := { s with toks := s.toks + (k.length + 1) }) R (I.isT hx) (by simp only [Around.in1_units]; omega) few fun b h' L' es' ep' t' sb R' c1 c2 => ?_
  show wpAny _ _ (ret Value.none) _ _ _
  refine wpAny_pure ⟨_, rfl, h _ L' ?_ c1 c2⟩
  exact I.write (e := D) (t' := s.toks + (k.length + 1)) (by rw [hD]; trivial) (.inl rfl) (fun b u hb hu => (sb.2 b hb).trans hu) (let ⟨o, ho, _⟩ := R'.ob; ⟨o, ho⟩) (setTO_new R'.t0)
/-- the sets of tuples of ints -/
def famT (X : Cx) (hu : X.A.units + 64 < cLine) : Fam X (List Int) (List (Addr × List Int)) where
  So := fun D L => SetTO X.prog X.w D L
  c0 := []
  Ok := fun D y k L H => ∃ x, y = .ref x ∧ (∀ p ∈ L, SqT X.K H p.1 (p.2.map V.int)) ∧ SqT X.K H x (k.map V.int) ∧ L.length + 1 < 64
  Af := fun y k L L' => ∃ x, y = .ref x ∧ (k ∈ L.map (·.2) → L' = L) ∧ (k ∉ L.map (·.2) → L'.Perm ((x, k) :: L))
  new := fun H h => setTO_new (setTR_fresh (Heap.get?_push_size _ rfl)).t0
  add := by
    intro Y pins σ H s E D k c y u Q e1 e2 e3 e4 I r hD ok h
    obtain ⟨x, rfl, a1, a2, a3⟩ := ok
    cases (show u = Value.ref x from r)
    rw [← e3] at a1 a2
    rw [← e1, ← e2] at hD h
    exact addT I (by rw [e4]; exact hu) hD a1 a2 a3 fun s' L' I' c1 c2 => h s' L' I' ⟨x, rfl, c1, c2⟩
/-- len of such a set -/
def rLenT (K : PySem.W.Frag) (P : Program) (w : World) : List V → Hp → VK → Prop := fun vs H Q => ∃ (a : Addr) (L : List (Addr × List Int)), vs = [V.ref a] ∧ H a = some (SetTO P w a L) ∧ (∀ p ∈ L, SqT K H p.1 (p.2.map V.int)) ∧ Q (.int L.length) H
theorem cr_lenT : CallR X (.builtin "len") (rLenT X.K X.prog X.w) := by
  intro pins s σ H vs us Q I r h
  obtain ⟨a, L, rfl, ha, hk, q⟩ := h
  obtain ⟨es, ep, t, R⟩ := (show SetT0 X.prog X.w s.heap a L from (I.hok a _ ha).1).full fun p hp => I.isT (hk p hp)
  rw [Vals.ref1 r]
  obtain ⟨o, ho, hex, hd⟩ := R.ob
  have hs := R.size
  have hf := R.few
  exact call_len_set ho hex hd R.fits (by rw [hs]; omega) ⟨.int L.length, H, I.tok _, ⟨_, by rw [hs]⟩, q⟩
end
end TpS
namespace Tp
open PySem L2 TpS PpSet
/-- the different keys -/
def addK (ks : List (List Int)) (k : List Int) : List (List Int) := if k ∈ ks then ks else k :: ks
def dis (l : List (List Int)) : List (List Int) := l.foldl addK []
theorem dis_snoc (l : List (List Int)) (k : List Int) : dis (l ++ [k]) = addK (dis l) k := by unfold dis; rw [List.foldl_append]; rfl
theorem dis_mem : ∀ (l acc : List (List Int)) (x : List Int), x ∈ l.foldl addK acc ↔ x ∈ acc ∨ x ∈ l
  | [], acc, x => by simp
  | a :: l, acc, x => by
    rw [List.foldl_cons, dis_mem l]
    unfold addK
    split
    · constructor
      · rintro (h | h)
        · exact .inl h
        · exact .inr (List.mem_cons_of_mem _ h)
      · rintro (h | h)
        · exact .inl h
        · rcases List.mem_cons.mp h with rfl | h
          · exact .inl (by assumption)
          · exact .inr h
    · rw [List.mem_cons, List.mem_cons]
      constructor
      · rintro ((h | h) | h)
        · exact .inr (.inl h)
        · exact .inl h
        · exact .inr (.inr h)
      · rintro (h | h | h)
        · exact .inl (.inr h)
        · exact .inl (.inl h)
        · exact .inr h
theorem dis_len_acc : ∀ (l acc : List (List Int)), (l.foldl addK acc).length ≤ acc.length + l.length ∧ ((l.foldl addK acc).length = acc.length + l.length ↔ l.Nodup ∧ ∀ x ∈ l, x ∉ acc)
  | [], acc => by simp
  | a :: l, acc => by
    rw [List.foldl_cons]
    have ih := dis_len_acc l (addK acc a)
    by_cases h : a ∈ acc
    · have e : addK acc a = acc := if_pos h
      rw [e] at ih ⊢
      refine ⟨by rw [List.length_cons]; omega, ⟨fun z => by rw [List.length_cons] at z; omega, fun z => absurd h (z.2 a List.mem_cons_self)⟩⟩
    · have e : addK acc a = a :: acc := if_neg h
      rw [e] at ih ⊢
      rw [List.length_cons] at ih ⊢
      refine ⟨by omega, ⟨fun z => ?_, fun z => ?_⟩⟩
      · obtain ⟨h1, h2⟩ := ih.2.mp (by omega)
        refine ⟨List.nodup_cons.mpr ⟨fun m => h2 a m List.mem_cons_self, h1⟩, fun x hx => ?_⟩
        rcases List.mem_cons.mp hx with rfl | hx
        · exact h
        · exact fun m => h2 x hx (List.mem_cons_of_mem _ m)
      · have := ih.2.mpr ⟨(List.nodup_cons.mp z.1).2, fun x hx m => by
          rcases List.mem_cons.mp m with rfl | m
          · exact (List.nodup_cons.mp z.1).1 hx
          · exact z.2 x (List.mem_cons_of_mem _ hx) m⟩
        omega
theorem dis_le (l : List (List Int)) : (dis l).length ≤ l.length := by have := (dis_len_acc l []).1; rw [List.length_nil] at this; unfold dis; omega
theorem dis_lt (l : List (List Int)) : (dis l).length < l.length ↔ ¬ l.Nodup := by
  have h := dis_len_acc l []
  rw [List.length_nil, Nat.zero_add] at h
  unfold dis
  constructor
  · intro z nd
    have := h.2.mpr ⟨nd, fun x _ => by simp⟩
    omega
  · intro z
    rcases Nat.lt_or_ge (l.foldl addK []).length l.length with y | y
    · exact y
    · exact absurd (h.2.mp (by omega)).1 z
section
variable {X : Cx} {B : Bx} {W : WX} {r : List Sl} {a elt : Expr} {pos p : Pos} {k : Nat} {x : Str}
def ScP (X : Cx) (B : Bx) (r : List Sl) (ix : Nat) (σ : St) (H1 : Hp) (Dl : Addr) (ks : List (List Int)) (H' : Hp) : Prop :=
  Same H1 H' ∧ SOk X.K ⟨hide H' (own r), Dl :: B.ps, B.ts, B.gr⟩ r H' (σ.set ix none) ∧ Dl ∉ gown B.gr ∧ ∃ L, H' Dl = some (SetTO X.prog X.w Dl L) ∧ (L.map (·.2)).Perm ks ∧ ∀ p ∈ L, SqT X.K H' p.1 (p.2.map V.int)
theorem ScP.start {ix : Nat} {σ : St} {H1 : Hp} {Dl : Addr} (h0 : r[ix]? = some .no) (S : SOk X.K B r H1 σ) (hD : H1 Dl = none) : ScP X B r ix σ H1 Dl [] (upd H1 Dl (SetTO X.prog X.w Dl [])) := by
  have S' := S.setNo (i := ix)
  rw [set_self h0] at S'
  exact ⟨same_new hD, S'.dock hD, fun z => S.dom Dl (List.mem_append_right _ (S.gp Dl z)) hD, [], upd_same, .nil, fun p hp => nomatch hp⟩
theorem ScP.see {ix : Nat} {σ : St} {H1 H' : Hp} {Dl : Addr} {ks : List (List Int)} (hD : H1 Dl = none) (p : ScP X B r ix σ H1 Dl ks H') : Same (hid B r H1) (hide H' (own r ++ Dl :: B.ps)) := fun b u eb => by
  have eb : hide H1 (own r ++ B.ps) b = some u := eb
  by_cases hb : b ∈ own r ++ B.ps
  · rw [hide_in hb] at eb; cases eb
  · rw [hide_out hb] at eb
    have nb : b ≠ Dl := ne_of_none eb hD
    rw [hide_out fun z => (List.mem_append.mp z).elim (fun y => hb (List.mem_append_left _ y)) fun y => (List.mem_cons.mp y).elim nb fun y => hb (List.mem_append_right _ y)]
    exact p.1 _ _ eb
theorem sc_turn {hu : X.A.units + 64 < cLine} {ix : Nat} {scope : Scope} {σ : St} {H1 H' : Hp} {Dl : Addr} {ks : List (List Int)} {kf : List Int} {dv : D} {v : V} (h0 : r[ix]? = some .no) (hD : H1 Dl = none) (hk : ks.length + 1 < 64)
    (he : ∀ s H0 C cl fp H' q', EV (Blk X scope s H0 cl C fp) ⟨H', q', B.ts, B.gr⟩ elt (r.set ix (.im dv)) (.tuple (kf.map .int)))
    (p : ScP X B r ix σ H1 Dl ks H') (hv : Rp X.K (hide H' (own r ++ Dl :: B.ps)) v dv) :
    gName ix v (wipe σ [ix]) H' fun σ2 H2 => wipe σ2 [ix] = wipe σ [ix] ∧ tYes σ2 H2 fun b H3 =>
      if b = true then (fun σ H Q => ∀ s H0 C cl fp, wE (Blk X scope s H0 cl C fp) elt σ H Q : TE) σ2 H3 fun y H4 => ∃ c k, H4 Dl = some ((famT X hu).So Dl c) ∧ (famT X hu).Ok Dl y k c H4 ∧ ∀ c', (famT X hu).Af y k c c' → ScP X B r ix σ H1 Dl (addK ks kf) (upd H4 Dl ((famT X hu).So Dl c')) else ScP X B r ix σ H1 Dl (addK ks kf) H3 := by
  obtain ⟨p1, S, pg, L, p2, p3, p4⟩ := p
  show (((σ.set ix none).set ix (some v)).set ix none = σ.set ix none) ∧ _
  refine ⟨by rw [List.set_set, List.set_set], ?_⟩
  have S2 : SOk X.K ⟨hide H' (own r), Dl :: B.ps, B.ts, B.gr⟩ (r.set ix (.im dv)) H' ((σ.set ix none).set ix (some v)) := S.im hv
  simp only [tYes, if_true]
  intro s H0 C cl fp
  obtain ⟨t, pt, kt⟩ := he s H0 C cl fp (hide H' (own r)) (Dl :: B.ps)
  refine ⟨t, pt, kt H' _ S2 _ fun y H4 s4 ry => ?_⟩
  have p2' : H4 Dl = some (SetTO X.prog X.w Dl L) := s4.k p2
  have hl : L.length = ks.length := by rw [← p3.length_eq, List.length_map]
  have hL4 : ∀ p ∈ L, SqT X.K H4 p.1 (p.2.map V.int) := fun p hp => seqT s4 (p4 p hp)
  have ry : Rp X.K (hide H4 (own (r.set ix (.im dv)) ++ Dl :: B.ps)) y (.tuple (kf.map .int)) := ry
  cases ry with
  | @tup b xs _ h1 h2 =>
    have e := rp_ints h2
    subst e
    have h1' : SqT X.K H4 b (kf.map V.int) := seqT hide_same h1
    refine ⟨L, kf, p2', ⟨b, rfl, hL4, h1', by omega⟩, fun L' af => ?_⟩
    obtain ⟨b', eb, c1, c2⟩ := af
    cases eb
    have nb : ∀ {q : Addr} {zs : List V}, SqT X.K H4 q zs → SqT X.K (upd H4 Dl (SetTO X.prog X.w Dl L')) q zs := fun {q zs} z => by
      refine z.elim (fun z => .inl ?_) .inr
      by_cases hq : q = Dl
      · subst hq
        rcases z with z | ⟨u, z⟩
        · rw [p2'] at z; exact nomatch z
        · rw [p2'] at z; exact nomatch z
      · rcases z with z | ⟨u, z⟩
        · exact .inl (by rw [upd_ne hq]; exact z)
        · exact .inr ⟨u, by rw [upd_ne hq]; exact z⟩
    have eo : own (r.set ix (.im dv)) = own r := own_set_eq (s := .no) (s' := .im dv) rfl h0
    refine ⟨fun b u eb => ?_, (S.mono s4).redock List.mem_cons_self p2' trivial pg, pg, L', upd_same, ?_, ?_⟩
    · show Ext1 u (upd H4 Dl _ b)
      rw [upd_ne (ne_of_none eb hD)]
      exact (p1.trans s4) b u eb
    · by_cases hm : kf ∈ ks
      · rw [c1 (p3.mem_iff.mpr hm), show addK ks kf = ks from if_pos hm]; exact p3
      · rw [show addK ks kf = kf :: ks from if_neg hm]
        have z : (L'.map (·.2)).Perm (((b, kf) :: L).map (·.2)) := List.Perm.map _ (c2 fun m => hm (p3.mem_iff.mp m))
        exact z.trans (p3.cons kf)
    · intro q hq
      by_cases hm : kf ∈ L.map (·.2)
      · rw [c1 hm] at hq; exact nb (hL4 q hq)
      · rcases List.mem_cons.mp ((c2 hm).mem_iff.mp hq) with rfl | hq
        · exact nb h1'
        · exact nb (hL4 q hq)
/-- {elt for x in a list, a tuple}, elt a tuple of ints: its len -/
theorem evLenSc (ix : Nat) {W : WX} {tp : Bool} {α : Type} {L : List α} {gd : α → D} {kf : α → List Int} {px lp : Pos} {scope : Scope} (g : Go X W k) (hn : ES X B a r tp (L.map gd)) (hz : L.length < 63)
    (he : ∀ s H0 C cl fp H' q' u, u ∈ L → EV (Blk X scope s H0 cl C fp) ⟨H', q', B.ts, B.gr⟩ elt (r.set ix (.im (gd u))) (.tuple ((kf u).map .int))) (hm : X.mg "len" = none) (hg : Gl X "len" := by rfl) (h0 : r[ix]? = some .no := by rfl) (ok : BlkOk X.N X.env.scope scope [(x, ix)] := by exact blkOk_by (by rfl)) (hi : X.N[ix]? = some x := by rfl)
    (hx : Loc (compEnvC scope [] 0 X.env).scope x := by first | exact Or.inl rfl | exact Or.inr rfl) (hf : (scope.names.lookup x == some .cell) = true ∨ (compEnvC scope [] 0 X.env).scope.names.lookup x = some .local := by first | exact Or.inr rfl | exact Or.inl rfl)
    (hs : ∀ v, foldedSetIterable a X.env v = pure v := by intro _; rfl) (hst : NSt X (.SetComp elt [⟨.Name x px, a, [], 0⟩] scope pos) := by exact fun _ => rfl) :
    EV X B (.Call (.Name "len" p) [.SetComp elt [⟨.Name x px, a, [], 0⟩] scope pos] [] lp) r (.int (dis (L.map kf)).length) := by
  obtain ⟨ta, pa, ka⟩ := hn
  have hu : X.A.units + 64 < cLine := by have := g.hr.un; omega
  have itm : ∀ {G : Hp} {xs : List V} {i : Nat} {v : V}, RpA X.K G xs (L.map gd) → xs[i]? = some v → ∃ u, L[i]? = some u ∧ Rp X.K G v (gd u) := fun {G xs i v} h2 hv => by
    obtain ⟨d, hd, rd⟩ := h2.getV hv
    rw [List.getElem?_map] at hd
    cases e : L[i]? with
    | none => rw [e] at hd; cases hd
    | some u => rw [e] at hd; cases hd; exact ⟨u, rfl, rd⟩
  have tk : ∀ {i : Nat} {u : α}, L[i]? = some u → dis ((L.take (i + 1)).map kf) = addK (dis ((L.take i).map kf)) (kf u) := fun {i u} e => by
    rw [List.take_succ, e, List.map_append, ← dis_snoc]; rfl
  have few : ∀ i, (dis ((L.take i).map kf)).length + 1 < 64 := fun i => by
    have h1 := dis_le ((L.take i).map kf)
    rw [List.length_map, List.length_take] at h1
    omega
  cases tp with
  | false =>
    refine ⟨_, pe_callB cr_lenT hg hm PySem.boot_len (pa_cons (pe_scG (famT X hu) (own := [(x, ix)]) (te := fun σ H Q => ∀ s H0 C cl fp, wE (Blk X scope s H0 cl C fp) elt σ H Q) g.calm g.nd (pi_list pa) ok (fun s H0 C cl fp => pg_name (i := ix) g.nd hi hx hf) (fun _ _ _ _ _ => pts_nil) (fun s H0 C cl fp => ⟨fun pins s' σ H Q I z => wE_ok.run pins s' σ H Q I (z s H0 C cl fp)⟩) hs) pa_nil (hst _)) (he := hst _), fun H σ S Q q => ?_⟩
    refine ka H σ S _ fun b xs H1 s1 h1 h2 => ?_
    refine ⟨b, rfl, ⟨xs, h1⟩, fun Dl hD => ?_⟩
    have S1 := S.mono s1
    have hl := h2.len
    rw [List.length_map] at hl
    refine ⟨fun i m H' => m = xs.length - i ∧ i ≤ xs.length ∧ ScP X B r ix σ H1 Dl (dis ((L.take i).map kf)) H', ⟨xs.length, rfl, Nat.zero_le _, ScP.start h0 S1 hD⟩, ?_⟩
    rintro i m H' ⟨rfl, hi', p⟩
    have hq : SqL X.K H' b xs := p.1.seq h1
    by_cases hlt : i < xs.length
    · refine .inr ⟨⟨xs, xs[i], hq, by simp [hlt]⟩, ScP X B r ix σ H1 Dl (dis ((L.take (i + 1)).map kf)), fun H'' p' => ⟨xs.length - (i + 1), by omega, rfl, hlt, p'⟩, fun v H'' y => ?_⟩
      obtain ⟨rfl, y⟩ := y
      obtain ⟨u, eu, ru⟩ := itm h2 (y xs hq)
      rw [tk eu]
      exact sc_turn (hu := hu) h0 hD (few i) (fun s H0 C cl fp H' q' => he s H0 C cl fp H' q' u (List.mem_of_getElem? eu)) p (ru.mono (p.see hD))
    · have e : i = xs.length := by omega
      subst e
      refine .inl ⟨⟨xs, hq, Nat.le_refl _⟩, ?_⟩
      rw [hl, List.take_length] at p
      obtain ⟨q1, _, _, L', q2, q3, q4⟩ := p
      refine ⟨Dl, L', rfl, q2, q4, ?_⟩
      have e : L'.length = (dis (L.map kf)).length := by rw [← q3.length_eq, List.length_map]
      rw [e]
      exact q _ _ (s1.trans q1) (.int _)
  | true =>
    refine ⟨_, pe_callB cr_lenT hg hm PySem.boot_len (pa_cons (pe_scG (famT X hu) (own := [(x, ix)]) (te := fun σ H Q => ∀ s H0 C cl fp, wE (Blk X scope s H0 cl C fp) elt σ H Q) g.calm g.nd (pi_tup pa) ok (fun s H0 C cl fp => pg_name (i := ix) g.nd hi hx hf) (fun _ _ _ _ _ => pts_nil) (fun s H0 C cl fp => ⟨fun pins s' σ H Q I z => wE_ok.run pins s' σ H Q I (z s H0 C cl fp)⟩) hs) pa_nil (hst _)) (he := hst _), fun H σ S Q q => ?_⟩
    refine ka H σ S _ fun b xs H1 s1 h1 h2 => ?_
    refine ⟨b, rfl, ⟨xs, h1⟩, fun Dl hD => ?_⟩
    have S1 := S.mono s1
    have hl := h2.len
    rw [List.length_map] at hl
    refine ⟨fun i m H' => m = xs.length - i ∧ i ≤ xs.length ∧ ScP X B r ix σ H1 Dl (dis ((L.take i).map kf)) H', ⟨xs.length, rfl, Nat.zero_le _, ScP.start h0 S1 hD⟩, ?_⟩
    rintro i m H' ⟨rfl, hi', p⟩
    have hq : SqT X.K H' b xs := seqT p.1 h1
    by_cases hlt : i < xs.length
    · refine .inr ⟨⟨xs, xs[i], hq, by simp [hlt]⟩, ScP X B r ix σ H1 Dl (dis ((L.take (i + 1)).map kf)), fun H'' p' => ⟨xs.length - (i + 1), by omega, rfl, hlt, p'⟩, fun v H'' y => ?_⟩
      obtain ⟨rfl, y⟩ := y
      obtain ⟨u, eu, ru⟩ := itm h2 (y xs hq)
      rw [tk eu]
      exact sc_turn (hu := hu) h0 hD (few i) (fun s H0 C cl fp H' q' => he s H0 C cl fp H' q' u (List.mem_of_getElem? eu)) p (ru.mono (p.see hD))
    · have e : i = xs.length := by omega
      subst e
      refine .inl ⟨⟨xs, hq, Nat.le_refl _⟩, ?_⟩
      rw [hl, List.take_length] at p
      obtain ⟨q1, _, _, L', q2, q3, q4⟩ := p
      refine ⟨Dl, L', rfl, q2, q4, ?_⟩
      have e : L'.length = (dis (L.map kf)).length := by rw [← q3.length_eq, List.length_map]
      rw [e]
      exact q _ _ (s1.trans q1) (.int _)
end
end Tp

/-! x in list; new lists handed back -/
namespace Tp
open PySem L2
section
variable {X : Cx} {B : Bx} {W : WX} {P : Po} {r q : List Sl} {e a b o tg : Expr} {es : List Expr} {rest body orelse : List Stmt} {d dx dy : D} {ds : List D} {pos pos' p : Pos} {k kk : Nat}
theorem cv_inD (hu : X.A.units + 65 < cLine) (h1 : Shp 64 d) (h2 : Shp 64 (.list ds)) : CV X .In d (.list ds) (ds.any fun z => PyData.eqv z d) :=
  ⟨_, op_inD hu, fun H x y rx ry Q q => ⟨d, ds, rx.dp h1, ry.dp h2, h1.shaped, h2.shaped, q⟩⟩
theorem cv_ninD (hu : X.A.units + 65 < cLine) (h1 : Shp 64 d) (h2 : Shp 64 (.list ds)) : CV X .NotIn d (.list ds) (!ds.any fun z => PyData.eqv z d) :=
  ⟨_, op_notInD hu, fun H x y rx ry Q q => ⟨d, ds, rx.dp h1, ry.dp h2, h1.shaped, h2.shaped, q⟩⟩
theorem any_int {α : Type} {f : α → Int} {i : Int} : ∀ (l : List α), ((l.map fun x => PyData.int (f x)).any fun z => PyData.eqv z (.int i)) = l.any fun x => decide (f x = i)
  | [] => rfl
  | x :: l => by
    show (PyData.eqv (.int (f x)) (.int i) || _) = _
    rw [any_int l, List.any_cons]
    congr 1
theorem Go.un65 (g : Go X W kk) : X.A.units + 65 < cLine := by have := g.hr.un; omega
theorem cv_inI {α : Type} {f : α → Int} {l : List α} {i : Int} (g : Go X W kk) : CV X .In (.int i) (.list (l.map fun x => PyData.int (f x))) (l.any fun x => decide (f x = i)) := by
  rw [← any_int]; exact cv_inD g.un65 .int (.lst (ShpA.map (fun x => .int) l))
theorem cv_ninI {α : Type} {f : α → Int} {l : List α} {i : Int} (g : Go X W kk) : CV X .NotIn (.int i) (.list (l.map fun x => PyData.int (f x))) (!l.any fun x => decide (f x = i)) := by
  rw [← any_int]; exact cv_ninD g.un65 .int (.lst (ShpA.map (fun x => .int) l))
theorem EV.seqQ {tp : Bool} (h : EV X B e r (sqD tp ds)) : ES X B e r tp ds := by
  cases tp with
  | true => exact EV.seqT h
  | false => exact EV.seq h
/-- t[lo:hi], the whole of it or not -/
theorem evSlTA {lo hi : Option Expr} {l u : Option Int} {p2 : Pos} (h : EV X B e r (.tuple ds)) (hl : EO X B lo r l) (hu : EO X B hi r u) : EV X B (.Subscript e (.Slice lo hi none p2) pos) r (.tuple (cutD ds l u)) := by
  obtain ⟨t, p, k⟩ := h
  obtain ⟨tl, pl, kl⟩ := hl
  obtain ⟨tu, pu, ku⟩ := hu
  refine ⟨_, pe_slice sl_tupA p pl pu, fun H σ S Q q => k H σ S _ fun v H1 s1 y => kl H1 σ (S.mono s1) _ fun H2 s2 => ku H2 σ (S.mono (s1.trans s2)) _ fun H3 s3 => ?_⟩
  have s23 := s2.trans s3
  have y3 := y.mono (hide_mono (ps := own r ++ B.ps) s23)
  cases y3 with
  | @tup a vs _ h1 z =>
    refine ⟨a, vs, rfl, seqT hide_same h1, fun hw => q _ _ (s1.trans s23) ?_, fun _ l' hl' => q _ _ ((s1.trans s23).trans (same_new hl')) (.tup (SqT.of (hide_new hl' (S.mono (s1.trans s23)).dom)) ((cut_same z _ _).mono (hide_mono (same_new hl'))))⟩
    have e : cutD ds l u = ds := by
      rw [z.len] at hw
      unfold cutD
      rw [hw.1, hw.2, Nat.sub_zero, List.drop_zero, List.take_length]
    rw [e]
    exact .tup h1 z
theorem cut_to {m : Int} (h : 0 ≤ m) : cutD ds none (some m) = ds.take m.toNat := by
  unfold cutD
  have e1 : HT.sIx ds.length 0 none = 0 := rfl
  have e2 : HT.sIx ds.length ds.length (some m) = min m.toNat ds.length := if_neg (by omega)
  rw [e1, e2, List.drop_zero, Nat.sub_zero, ← List.take_take, List.take_length]
theorem cut_from {m : Int} (h : 0 ≤ m) : cutD ds (some m) none = ds.drop m.toNat := by
  unfold cutD
  have e1 : HT.sIx ds.length ds.length none = ds.length := rfl
  have e2 : HT.sIx ds.length 0 (some m) = min m.toNat ds.length := if_neg (by omega)
  rw [e1, e2]
  rcases Nat.le_total m.toNat ds.length with z | z
  · rw [Nat.min_eq_left z, ← List.length_drop, List.take_length]
  · rw [Nat.min_eq_right z, Nat.sub_self, List.take_zero, List.drop_eq_nil_of_le z]
/-- return, of a new list -/
theorem sv_retE (he : EN X B e r (fun p => .ol p ds)) (h : P.rt (.nl ds) r) : SV X B W (.Return (some e) pos :: rest) r P := fun H σ E S kt => by
  obtain ⟨te, p, q⟩ := he
  refine ⟨_, pss_cons (ps_ret p) wS_ok, q H σ S _ fun l o H1 s1 hl _ hv => ?_⟩
  obtain ⟨e1, vs, y, z⟩ := hv
  cases e1
  have S1 := (S.mono s1).mono (same_new (o := o) hl)
  refine kt.rt (.nl ds) _ r σ _ S1 ⟨l, vs, rfl, ?_, y, z.mono fun c u ec => ?_⟩ h
  · cases e2 : B.H0 l with
    | none => rfl
    | some u =>
      obtain ⟨u', e3⟩ := ((S.mono s1).ex l u e2).is
      rw [hl] at e3; cases e3
  · have ec : hide H1 (own r ++ B.ps) c = some u := ec
    by_cases hc : c ∈ own r ++ B.ps
    · rw [hide_in hc] at ec; cases ec
    · rw [hide_out hc] at ec
      have nc : c ≠ l := ne_of_none ec hl
      rw [hide_out fun z => (List.mem_cons.mp z).elim nc hc, upd_ne nc]
      exact .inl ec
/-- xs + e: a new owned list -/
theorem enCatE {xs ys : List D} (ha : EV X B a r (.list xs)) (hb : EV X B b r (.list ys)) (hl : xs.length + ys.length ≤ 100000) : EN X B (.BinOp a .Add b pos) r (fun p => .ol p (xs ++ ys)) := by
  obtain ⟨ta, pa, ka⟩ := ha
  obtain ⟨tb, pb, kb⟩ := hb
  refine ⟨_, pe_op op_catL pa pb, fun H σ S Q g => ka H σ S _ fun v H1 s1 y => kb H1 σ (S.mono s1) _ fun u H2 s2 z => ?_⟩
  have y := y.mono (hide_mono (ps := own r ++ B.ps) s2)
  cases y with
  | lst h1 a1 =>
    cases z with
    | lst h2 a2 =>
      have l1 := a1.len
      have l2 := a2.len
      exact ⟨_, _, _, _, rfl, rfl, hide_same.seq h1, hide_same.seq h2, by rw [l1, l2]; exact line_of hl, fun p hp => g p _ H2 (s1.trans s2) hp rfl ⟨rfl, _, upd_same, a1.app a2⟩⟩
end
end Tp

/-! owned sets of ints; copies of dicts; a display of one pair -/
namespace TpS
open PySem PySem.Spec PyProof.Rows L2
section
variable {X : Cx}
def rSetE : List V → Hp → VK → Prop := fun xs H Q => xs = [] ∧ ∀ p, H p = none → Q (.ref p) (upd H p (.set (fun _ => false) 0))
theorem cr_setE : CallR X (.type "set") rSetE := by
  rintro pins s σ H xs us Q I r ⟨rfl, q⟩
  cases r
  refine setR_new fun R => ?_
  exact ⟨.ref _, upd H s.heap.objs.size (.set (fun _ => false) 0), I.laid (t' := s.toks) (fun b u e => Heap.get?_push_of_some _ e) (Nat.le_refl _) (R.setOf (P := X.prog)), rfl, q _ (I.hok.fresh (Nat.le_refl _))⟩
def rAddI : V → List V → Hp → VK → Prop := fun x xs H Q => ∃ (a : Addr) (k : Int) (S : Int → Bool) (n : Nat), x = V.ref a ∧ xs = [.int k] ∧ H a = some (.set S n) ∧ n + 1 < scanBound ∧ Q .non (upd H a (.set (fun j => S j || decide (j = k)) (if S k = true then n else n + 1)))
theorem mt_addI : MtR X "set.add" rAddI := by
  rintro pins s σ H x xs v us Q I rx rxs ⟨a, k, S, n, rfl, rfl, ha, room, q⟩
  cases rx
  cases rxs with
  | cons ry rt =>
    cases rt
    obtain ⟨t, rfl⟩ := ry
    have hS : s.heap.SetOf (intKind X.prog X.w) a S n := I.hok a _ ha
    refine call_set_add (intKind_is X.prog X.w k t) rfl hS room fun h' sb new => ?_
    obtain ⟨u, hu⟩ : ∃ u, h'.get? a = some u := let ⟨o, _, _, _, ho, _⟩ := new; ⟨o, ho⟩
    exact ⟨.non, _, I.write (e := a) (o := .set (fun j => S j || decide (j = k)) (if S k = true then n else n + 1)) (t' := s.toks + 1) (by rw [ha]; trivial) (.inl rfl) (fun b u hb hu => (sb.2 b hb).trans hu) ⟨u, hu⟩ new, rfl, q⟩
def tAddI (to : TE) (t : TA) : TE := fun σ H Q => to σ H fun x H1 => (∃ a S n, x = V.ref a ∧ H1 a = some (.set S n)) ∧ t σ H1 fun xs H2 => rAddI x xs H2 Q
theorem pe_addI {o e : Expr} {es : List Expr} {to : TE} {t : TA} {apos cpos : Pos} (ho : PE X o to) (ha : PA X (e :: es) t) (hbase : attributeBase o "add" X.env (eval o X.env) = eval o X.env)
    (hfew : ((backTo cpos (starEach (e :: es) X.env)).all (fun x => !x.1) && (backToKw cpos (keywordEach [] X.env)).all (fun x => x.1.isSome) && decide ((e :: es).length + ([] : List Keyword).length + (if ([] : List Keyword).isEmpty then 0 else 1) < 30)) = true)
    (hline : (apos.endLine == cpos.line) = true) (hs : starEach (e :: es) X.env = (false, eval e X.env) :: starEach es X.env) (hplain : (backTo cpos (starEach es X.env)).any (·.1) = false) : PE X (.Call (.Attribute o "add" apos) (e :: es) [] cpos) (tAddI to t) := by
  refine ⟨fun pins s σ H Q I h => wpAny_Call_method_late hbase hfew hline rfl (thn (ho.run pins s σ H _ I h) fun v s1 ⟨x, H1, I1, r1, ⟨a, S, n, ex, hka⟩, q1⟩ => ?_)⟩
  subst ex
  have hS : s1.heap.SetOf (intKind X.prog X.w) a S n := I1.hok a _ hka
  cases r1
  refine ⟨"set", "set.add", F.plainAttrs_set, F.slot_set_add, F.type_set_add, hS.typeIs, hS.noDict, ?_⟩
  have run := ha.run cpos pins s1 σ H1 _ I1 q1
  rw [hs] at run ⊢
  exact Calls.callWith_builtin (by show (false || (backTo cpos (starEach es X.env)).any (·.1)) = false; rw [hplain]; rfl) (Calls.evalArgs_plain (thn run fun us s2 ⟨vs, H2, I2, r2, q2⟩ => mt_addI pins s2 σ H2 (.ref a) vs (.ref a) us Q I2 rfl r2 q2))
def rInI (neg : Bool) : V → V → Hp → VK → Prop := fun x y H Q => ∃ (k : Int) (a : Addr) (S : Int → Bool) (n : Nat), x = .int k ∧ y = V.ref a ∧ H a = some (.set S n) ∧ Q (.bl (if neg then !S k else S k)) H
theorem or_inI : OpR X (compareOp .In) (rInI false) := by
  rintro pins s σ H x y v u Q I rx ry ⟨k, a, S, n, rfl, rfl, ha, q⟩
  cases ry
  obtain ⟨t, rfl⟩ := rx
  exact wpAny_inSet_of (intKind_is X.prog X.w k t) rfl (show s.heap.SetOf (intKind X.prog X.w) a S n from I.hok a _ ha) ⟨.bl (S k), H, I.tok _, rfl, q⟩
theorem or_ninI : OpR X (compareOp .NotIn) (rInI true) := by
  rintro pins s σ H x y v u Q I rx ry ⟨k, a, S, n, rfl, rfl, ha, q⟩
  cases ry
  obtain ⟨t, rfl⟩ := rx
  exact wpAny_notInSet_of (intKind_is X.prog X.w k t) rfl (show s.heap.SetOf (intKind X.prog X.w) a S n from I.hok a _ ha) ⟨.bl (!S k), H, I.tok _, rfl, q⟩
end
end TpS
namespace Tp
open PySem L2 TpS
section
variable {X : Cx} {B : Bx} {W : WX} {P : Po} {r q : List Sl} {e a b o tg : Expr} {es : List Expr} {rest body orelse : List Stmt} {d dx dy : D} {ds : List D} {pos pos' p : Pos} {k kk : Nat} {x : Str} {kvs : List (Key × D)}
theorem enSet0 (hm : X.mg "set" = none) (hg : Gl X "set" := by rfl) : EN X B (.Call (.Name "set" p) [] [] pos) r (fun p => .os p []) := by
  refine ⟨_, pe_callTy0 cr_setE hg hm (by decide +kernel), fun H σ S Q g => ⟨rfl, fun p hp => g p _ H (Same.refl H) hp rfl ⟨rfl, 0, ?_, Nat.le_refl _⟩⟩⟩
  rw [upd_same]
  exact congrArg (fun f => some (HO.set f 0)) (funext fun i => by simp)
/-- x.add(e), x an owned set -/
theorem sv_sadd (i : Nat) {l : Addr} {S0 : List Int} {j : Int} {pc cp : Pos} (hr : r[i]? = some (.os l S0)) (he : EV X B e r (.int j)) (hl : S0.length ≤ 1000) (h : SV X B W rest (r.set i (.os l (j :: S0))) P) (hN : X.N[i]? = some x := by rfl) (hv : Vis X.env.scope x := by first | exact Or.inl rfl | exact Or.inr (Or.inl rfl) | exact Or.inr (Or.inr rfl)) (hd : (x == ("__debug__" : Str)) = false := by decide)
    (hcd : (x == ("__classdict__" : Str)) = false := by decide) (hs : swapsWith (.Call (.Attribute (.Name x pos') "add" pc) [e] [] cp) none pos.line X.env = pure false := by rfl) (hline : (pc.endLine == cp.line) = true := by rfl) (hst : NSt X e := by exact fun _ => rfl) :
    SV X B W (.Expr (.Call (.Attribute (.Name x pos') "add" pc) [e] [] cp) pos :: rest) r P := fun H σ E S kt => by
  obtain ⟨te, pp, q⟩ := he
  obtain ⟨e1, n, y, z⟩ := S.sl i _ hr
  refine ⟨_, pss_cons (ps_expr (pe_addI (pe_var hN hv hd hcd) (pa_cons pp pa_nil (hst _)) (by rfl) (by rw [hst]; rfl) hline (hst _) (by rfl)) hs) wS_ok, _, e1, ⟨_, _, _, rfl, y⟩, q H σ S _ fun v H1 s1 u => ?_⟩
  cases u
  have y1 := s1.k y
  have hb : 2000 < scanBound := by decide
  refine ⟨l, j, _, n, rfl, rfl, y1, by omega, ?_⟩
  have ef : (fun i => decide (i ∈ S0) || decide (i = j)) = fun i => decide (i ∈ j :: S0) := funext fun i => by
    by_cases h1 : i ∈ S0 <;> by_cases h2 : i = j <;> simp [h1, h2]
  rw [ef]
  exact h _ _ E ((S.mono s1).turn hr rfl rfl ⟨e1, _, upd_same, by rw [List.length_cons]; split <;> omega⟩) kt
theorem etSin (i : Nat) {l : Addr} {S0 : List Int} {j : Int} {px : Pos} (hr : r[i]? = some (.os l S0)) (he : EV X B e r (.int j)) (hN : X.N[i]? = some x := by rfl) (hv : Vis X.env.scope x := by first | exact Or.inl rfl | exact Or.inr (Or.inl rfl) | exact Or.inr (Or.inr rfl)) (hd : (x == ("__debug__" : Str)) = false := by decide)
    (hcd : (x == ("__classdict__" : Str)) = false := by decide) (hm : behindInMarks CmpOp.In (.Name x px) = false := by rfl) : EV X B (.Compare e [.In] [.Name x px] pos) r (.bool (decide (j ∈ S0))) := by
  obtain ⟨te, pp, q⟩ := he
  refine ⟨_, pe_cmpR or_inI pp (pe_var hN hv hd hcd) hm, fun H σ S Q g => q H σ S _ fun v H1 s1 u => ?_⟩
  cases u
  obtain ⟨e1, n, y, z⟩ := (S.mono s1).sl i _ hr
  exact ⟨_, e1, j, l, _, n, rfl, rfl, y, g _ H1 s1 (.bl _)⟩
theorem etSnin (i : Nat) {l : Addr} {S0 : List Int} {j : Int} {px : Pos} (hr : r[i]? = some (.os l S0)) (he : EV X B e r (.int j)) (hN : X.N[i]? = some x := by rfl) (hv : Vis X.env.scope x := by first | exact Or.inl rfl | exact Or.inr (Or.inl rfl) | exact Or.inr (Or.inr rfl)) (hd : (x == ("__debug__" : Str)) = false := by decide)
    (hcd : (x == ("__classdict__" : Str)) = false := by decide) (hm : behindInMarks CmpOp.NotIn (.Name x px) = false := by rfl) : EV X B (.Compare e [.NotIn] [.Name x px] pos) r (.bool (!decide (j ∈ S0))) := by
  obtain ⟨te, pp, q⟩ := he
  refine ⟨_, pe_cmpR or_ninI pp (pe_var hN hv hd hcd) hm, fun H σ S Q g => q H σ S _ fun v H1 s1 u => ?_⟩
  cases u
  obtain ⟨e1, n, y, z⟩ := (S.mono s1).sl i _ hr
  exact ⟨_, e1, j, l, _, n, rfl, rfl, y, g _ H1 s1 (.bl _)⟩
theorem etTDin {key : Key} (g : Go X W kk) (he : EV X B e r (kD key)) (ho : EK X B o r kvs) (hm : behindInMarks CmpOp.In o = false := by rfl) : ET X B (.Compare e [.In] [o] pos) r (lkK kvs key).isSome := by
  obtain ⟨t, pp, kp⟩ := ho
  obtain ⟨t', pp', kp'⟩ := he
  refine ⟨_, pt_cmp (pc_din (hu_of g.hr) pp' pp) hm, fun H σ S Q q => kp' H σ S _ fun v H1 s1 w => kp H1 σ (S.mono s1) _ fun a us H2 s2 y z => ?_⟩
  rw [w.key]
  refine ⟨a, _, rfl, DGet.k y, ?_⟩
  rcases z.find (k := key) with ⟨h1, h2⟩ | ⟨v', d', h1, h2, h3⟩
  · rw [h1]; refine ⟨_, rfl, ?_⟩; have := q H2 (s1.trans s2); rw [h2] at this; exact this
  · rw [h1]; refine ⟨_, rfl, ?_⟩; have := q H2 (s1.trans s2); rw [h2] at this; exact this
theorem etTDnin {key : Key} (g : Go X W kk) (he : EV X B e r (kD key)) (ho : EK X B o r kvs) (hm : behindInMarks CmpOp.NotIn o = false := by rfl) : ET X B (.Compare e [.NotIn] [o] pos) r (!(lkK kvs key).isSome) := by
  obtain ⟨t, pp, kp⟩ := ho
  obtain ⟨t', pp', kp'⟩ := he
  refine ⟨_, pt_cmp (pc_dnotin (hu_of g.hr) pp' pp) hm, fun H σ S Q q => kp' H σ S _ fun v H1 s1 w => kp H1 σ (S.mono s1) _ fun a us H2 s2 y z => ?_⟩
  rw [w.key]
  refine ⟨a, _, rfl, DGet.k y, ?_⟩
  rcases z.find (k := key) with ⟨h1, h2⟩ | ⟨v', d', h1, h2, h3⟩
  · rw [h1]; refine ⟨_, rfl, ?_⟩; have := q H2 (s1.trans s2); rw [h2] at this; exact this
  · rw [h1]; refine ⟨_, rfl, ?_⟩; have := q H2 (s1.trans s2); rw [h2] at this; exact this
theorem etTSin (i : Nat) {l : Addr} {S0 : List Int} {j : Int} {px : Pos} (hr : r[i]? = some (.os l S0)) (he : EV X B e r (.int j)) (hN : X.N[i]? = some x := by rfl) (hv : Vis X.env.scope x := by first | exact Or.inl rfl | exact Or.inr (Or.inl rfl) | exact Or.inr (Or.inr rfl)) (hd : (x == ("__debug__" : Str)) = false := by decide)
    (hcd : (x == ("__classdict__" : Str)) = false := by decide) (hm : behindInMarks CmpOp.In (.Name x px) = false := by rfl) : ET X B (.Compare e [.In] [.Name x px] pos) r (decide (j ∈ S0)) := by
  obtain ⟨te, pp, q⟩ := he
  refine ⟨_, pt_cmpR or_inI pp (pe_var hN hv hd hcd) hm, fun H σ S Q g => q H σ S _ fun v H1 s1 u => ?_⟩
  cases u
  obtain ⟨e1, n, y, z⟩ := (S.mono s1).sl i _ hr
  exact ⟨_, e1, j, l, _, n, rfl, rfl, y, _, rfl, g H1 s1⟩
theorem etTSnin (i : Nat) {l : Addr} {S0 : List Int} {j : Int} {px : Pos} (hr : r[i]? = some (.os l S0)) (he : EV X B e r (.int j)) (hN : X.N[i]? = some x := by rfl) (hv : Vis X.env.scope x := by first | exact Or.inl rfl | exact Or.inr (Or.inl rfl) | exact Or.inr (Or.inr rfl)) (hd : (x == ("__debug__" : Str)) = false := by decide)
    (hcd : (x == ("__classdict__" : Str)) = false := by decide) (hm : behindInMarks CmpOp.NotIn (.Name x px) = false := by rfl) : ET X B (.Compare e [.NotIn] [.Name x px] pos) r (!decide (j ∈ S0)) := by
  obtain ⟨te, pp, q⟩ := he
  refine ⟨_, pt_cmpR or_ninI pp (pe_var hN hv hd hcd) hm, fun H σ S Q g => q H σ S _ fun v H1 s1 u => ?_⟩
  cases u
  obtain ⟨e1, n, y, z⟩ := (S.mono s1).sl i _ hr
  exact ⟨_, e1, j, l, _, n, rfl, rfl, y, _, rfl, g H1 s1⟩
/-- dict(d): a new owned dict -/
theorem enDictD {p1 : Pos} (h : EK X B e r kvs) (hm : X.mg "dict" = none) (hg : Gl X "dict" := by rfl) (hst : NSt X e := by exact fun _ => rfl) : EN X B (.Call (.Name "dict" p1) [e] [] pos) r (fun p => .od p kvs) := by
  obtain ⟨t, pp, q⟩ := h
  exact ⟨_, pe_callTy call_dictD hg hm (by decide +kernel) (pa_cons pp pa_nil (hst _)) (he := hst _), fun H σ S Q g => q H σ S _ fun a us H1 s1 y z => ⟨a, us, rfl, .inl y, fun p hp => g p _ H1 s1 hp rfl ⟨rfl, us, upd_same, z⟩⟩⟩
/-- {k: v} -/
theorem evDisp1 {key : Key} (hk : ∀ H' q', EV X ⟨H', q', B.ts, B.gr⟩ a r (kD key)) (hv : ∀ H' q', EV X ⟨H', q', B.ts, B.gr⟩ b r d) : EV X B (.Dict [some a] [b] pos) r (.dict ([(key, d)].map kdm)) := by
  refine ⟨tDisp [(fun σ H Q => wE X a σ H Q, fun σ H Q => wE X b σ H Q)], pe_disp (pps_cons ⟨fun pins s σ H Q I z => wE_ok.run pins s σ H Q I z⟩ ⟨fun pins s σ H Q I z => wE_ok.run pins s σ H Q I z⟩ pps_nil) rfl rfl (by simp) (by simp), fun H σ S Q g => fun p hp => ?_⟩
  have S1 : SOk X.K ⟨hide (upd H p (.dK [])) (own r), p :: B.ps, B.ts, B.gr⟩ r (upd H p (.dK [])) σ := S.dock hp
  obtain ⟨ta, pa, ka⟩ := hk (hide (upd H p (.dK [])) (own r)) (p :: B.ps)
  obtain ⟨tb, pb, kb⟩ := hv (hide (upd H p (.dK [])) (own r)) (p :: B.ps)
  refine ⟨ta, pa, ka _ σ S1 _ fun v H1 s1 y => ⟨tb, pb, kb H1 σ (S1.mono s1) _ fun u H2 s2 z => ?_⟩⟩
  have s12 := s1.trans s2
  have e2 : H2 p = some (.dK []) := s12.k upd_same
  rw [y.key]
  refine ⟨e2, [(key, u)], rfl, by simp, ?_⟩
  have s3 : Same H (upd H2 p (.dK (mergeK [] [(key, u)]))) := fun c o eo => by
    have nc := ne_of_none eo hp
    rw [upd_ne nc]
    exact s12 c o (by rw [upd_ne nc]; exact eo)
  refine g _ _ s3 ?_
  have np : p ∉ own r ++ B.ps := fun m => S.dom p m hp
  refine .dct (kvs := [(key, d)]) (us := [(key, u)]) ?_ (.cons (z.mono fun c o eo => ?_) .nil)
  · show hide _ (own r ++ B.ps) p = _
    rw [hide_out np, upd_same]; rfl
  · have eo : hide H2 (own r ++ p :: B.ps) c = some o := eo
    by_cases hc : c ∈ own r ++ p :: B.ps
    · rw [hide_in hc] at eo; cases eo
    · rw [hide_out hc] at eo
      have nc : c ≠ p := fun m => hc (m ▸ List.mem_append_right _ List.mem_cons_self)
      have hc2 : c ∉ own r ++ B.ps := fun m => hc ((List.mem_append.mp m).elim (fun w => List.mem_append_left _ w) fun w => List.mem_append_right _ (List.mem_cons_of_mem _ w))
      show Ext1 o (hide _ (own r ++ B.ps) c)
      rw [hide_out hc2, upd_ne nc]
      exact .inl eo
end
end Tp

/-! enumerate over a tuple -/
namespace TpS
open PySem PySem.Spec PyProof.Rows L2
def IteT (K : PySem.W.Frag) (a : Addr) : It :=
  ⟨fun i H => ∃ (xs : List V) (x : V), SqT K H a xs ∧ xs[i]? = some x, fun i H v H' => ∃ T x, v = .ref T ∧ H T = none ∧ H' = upd H T (.tup [.int (i : Nat), x]) ∧ ∀ xs, SqT K H a xs → xs[i]? = some x, fun i H => ∃ xs : List V, SqT K H a xs ∧ xs.length = i⟩
theorem tup_apart {h : Heap} {a b : Addr} {its : Array Value} {o : Obj} (p : IsTup h a its) (e : h.get? b = some o) (hc : o.cls ≠ .type "tuple") : a ≠ b := fun z => by
  obtain ⟨o', e', c', _⟩ := p
  rw [z, e] at e'
  cases e'
  exact hc c'
theorem turn_enumT {P : Program} {w : World} {K : PySem.W.Frag} {elts : List Expr} {kk : Nat} {tpos : Pos} (a e it : Addr) :
    Turn P w K (.Tuple elts kk tpos) (IteT K a) [e, it] e (fun i h => (∃ old, IsEnum h e it ((i : Nat) : Int) old) ∧ h.IsTupleIter it a i ∧ e ≠ it) where
  mem := by simp
  obj := fun i h st b hb => by
    obtain ⟨⟨old, he⟩, ⟨o, ho, hc, hd⟩, _⟩ := st
    rcases (show b = e ∨ b = it by simpa using hb) with z | z
    · rw [z]; exact ⟨_, he, fun v q => nomatch q⟩
    · rw [z]; exact ⟨o, ho, fun v q => by rw [hd] at q; cases q⟩
  keep := fun i h h' st k => let ⟨⟨old, he⟩, hi, hne⟩ := st; ⟨⟨old, k e (by simp) _ he⟩, hi.at fun o q => k it (by simp) o q, hne⟩
  item := by
    intro X hP hw hK hc i pins s σ H E I hf st hg
    subst hP hw hK
    obtain ⟨⟨old, he⟩, hit, hne⟩ := st
    obtain ⟨xs, x, hq, hx⟩ := hg
    obtain ⟨its, rv, p, hz⟩ := I.tuple hq
    obtain ⟨u, hu, ru⟩ := rv.get hx
    have hel : e < s.heap.objs.size := Heap.lt_size he
    obtain ⟨oi, hoi, ci, _⟩ := id hit
    have hil : it < s.heap.objs.size := Heap.lt_size hoi
    have hai : a ≠ it := tup_apart p hoi (by rw [ci]; intro z; injection z with z; exact absurd z (by decide))
    have hae : a ≠ e := tup_apart p he (by intro z; injection z with z; exact absurd z (by decide))
    have hlt : i < its.toArray.size := by rw [List.size_toArray]; exact (List.getElem?_eq_some_iff.mp hu).1
    refine wpAny_pyNext_enum_itemD (Draws.tuple (prog := X.prog) (w := X.w) (A := X.A.in1) (I.ok.hd hc) it a hai its.toArray) he ⟨hit, p⟩ hlt hne (by simp [hne, Ne.symm hae]) fun y h' tk hy ho st' hT hsz hk => ?_
    have hyu : y = u := by
      have hy : its.toArray[i]? = some y := hy
      have : its[i]? = some y := by simpa using hy
      rw [hu] at this
      exact (Option.some.inj this).symm
    subst hyu
    refine ⟨_, rfl, wpAny_letOwnedTupleGo_enum (s := { s with heap := h', toks := tk + 1 }) ho fun h'' he' sb => ?_⟩
    have hT2 : h''.get? s.heap.objs.size = some { cls := .type "tuple", data := .seq #[.int i tk, y] } := (sb.2 _ (Nat.ne_of_gt hel)).trans hT
    have new : ObjOk X.prog X.w (upd H s.heap.objs.size (.tup [.int (i : Nat), x])) h'' s.heap.objs.size (.tup [.int (i : Nat), x]) :=
      ⟨by show 2 ≤ sizeLine; decide, [.int i tk, y], .cons ⟨_, rfl⟩ (.cons ru .nil), ⟨_, hT2, rfl, _, rfl⟩⟩
    have I1 : Inv X pins σ (upd H s.heap.objs.size (.tup [.int (i : Nat), x])) { s with heap := h'', toks := tk + 1 } :=
      I.turnedNew (ch := [e, it]) (fun b ob hb q => (sb.2 b (fun z => hb (by simp [z]))).trans (hk b ob (fun z => hb (by simp [z])) (fun z => hb (by simp [z])) q)) hf (Nat.le_refl _) new
    refine ⟨.ref s.heap.objs.size, _, I1, rfl, ⟨_, x, rfl, I.hok.fresh (Nat.le_refl _), rfl, fun ys hy2 => by rw [I.tuple_inj hy2 hq]; exact hx⟩, ⟨⟨y, ?_⟩, st'.1.at fun o q => (sb.2 it (Ne.symm hne)).trans q, hne⟩, fun b hb => ?_⟩
    · have e1 : ((i + 1 : Nat) : Int) = (i : Int) + 1 := by omega
      rw [e1]; exact he'
    · have hb' : b < s.heap.objs.size := by
        rcases (show b = e ∨ b = it by simpa using hb) with z | z
        · rw [z]; exact hel
        · rw [z]; exact hil
      rw [upd_ne (Nat.ne_of_lt hb')]
      exact (hf b hb).1
  done := by
    intro X hP hw hK hc i pins s σ H E I hf st hg
    subst hP hw hK
    obtain ⟨⟨old, he⟩, hit, hne⟩ := st
    obtain ⟨xs, hq, hx⟩ := hg
    obtain ⟨its, rv, p, hz⟩ := I.tuple hq
    obtain ⟨f0, f1, f2, f3, f4, f5⟩ := hf it (by simp)
    obtain ⟨oi, hoi, ci, _⟩ := id hit
    have hai : a ≠ it := tup_apart p hoi (by rw [ci]; intro z; injection z with z; exact absurd z (by decide))
    have hl := rv.length
    have hn : its.toArray.size = i := by rw [List.size_toArray]; omega
    exact wpAny_pyNext_enum_endD (Draws.tuple (prog := X.prog) (w := X.w) (A := X.A.in1) (I.ok.hd hc) it a hai its.toArray) he ⟨by rw [hn]; exact hit, p⟩ fun h' eb => ⟨rfl, I.turned (t' := s.toks) (fun b o hb q => eb b o hb q) f0 f1 f3 f4 f5⟩
  self := fun A i s Q E st h => let ⟨⟨_, he⟩, _⟩ := st; wpAny_pyIter_enum he h
theorem meets_enum1 {v : Value} {o : Obj} {G : Heap → Prop} (B : Begins v o G) :
    Meets (Builtin.«enumerate.__new__» ⟨[.type "enumerate", v], []⟩) (fun _ R s => G s.heap ∧ R (.ok (.ret (.ref (s.heap.push o).objs.size)))
        { s with heap := (s.heap.push o).push { cls := .type "enumerate", data := .fields #[.none, .bool false, .ref s.heap.objs.size, rawInt 0, .none, .none] } }) :=
  .of_wp fun prog w A R s h => by
    obtain ⟨hp, g, d, tk, os⟩ := s
    obtain ⟨h1, h⟩ := h
    have hsub := sub_enumerate
    have q1 : ∀ {A' : Around} {E : Value → Shared → Prop} {Q : Value → Shared → Prop}, Q (.ref hp.objs.size) ⟨hp.push o, g, d, tk, os⟩ → wpAny (model prog w) A' (pyIter v) Q E ⟨hp, g, d, tk, os⟩ :=
      fun q => B.iter prog w _ _ ⟨hp, g, d, tk, os⟩ _ h1 q
    wp_walk using q1
    refine wpAny_stack_any fun st => wpAny_pure ?_
    split
    · rename_i c _ _ _ _ _
      cases (c == Value.type "enumerate")
      · wp_walk using q1
        exact ⟨_, rfl, h⟩
      · wp_walk using q1
        exact ⟨_, rfl, h⟩
    · wp_walk using q1
      exact ⟨_, rfl, h⟩
section
variable {prog : Program} {w : World} {A : Around} {E : Value → Shared → Prop} {s : Shared}
theorem call_enum1 {v : Value} {o : Obj} {G : Heap → Prop} {Q : Value → Shared → Prop} (B : Begins v o G) (h1 : G s.heap)
    (h : ∀ h', IsEnum h' (s.heap.objs.size + 1) s.heap.objs.size 0 .none → h'.get? s.heap.objs.size = some o → h'.objs.size = s.heap.objs.size + 2 → (∀ b o, s.heap.get? b = some o → h'.get? b = some o) → Q (.ref (s.heap.objs.size + 1)) { s with heap := h' }) :
    wpAny (model prog w) A (call (.type "enumerate") [v]) Q E s := by
  refine callType_new F.called_enumerate (by decide) (F.typeCall_enumerate_1 _) (F.newCall_enumerate_1 _) (fun obj => F.args_object_init_2 obj _) F.entry_enumerate_new (meets_enum1 B) ⟨h1, ?_⟩
  have hz : (s.heap.push o).objs.size = s.heap.objs.size + 1 := Heap.size_push ..
  show _ ∧ _
  rw [hz]
  have he : IsEnum ((s.heap.push o).push { cls := .type "enumerate", data := .fields #[.none, .bool false, .ref s.heap.objs.size, rawInt 0, .none, .none] }) (s.heap.objs.size + 1) s.heap.objs.size 0 .none := by
    have := Heap.get?_push_size (s.heap.push o) (o := { cls := .type "enumerate", data := .fields #[.none, .bool false, .ref s.heap.objs.size, rawInt 0, .none, .none] }) rfl
    rw [hz] at this; exact this
  exact ⟨⟨_, he, rfl⟩, h _ he (Heap.get?_push_of_some _ (Heap.get?_push_size _ B.free)) (by rw [Heap.size_push, hz]) fun b o x => Heap.get?_push_of_some _ (Heap.get?_push_of_some _ x)⟩
end
def iEnumT (K : PySem.W.Frag) (ta : TA) : TI := fun σ H R => ta σ H fun vs H1 => ∃ a xs, vs = [.ref a] ∧ SqT K H1 a xs ∧ R (IteT K a) H1
theorem pi_enumT {X : Cx} {e : Expr} {ta : TA} {p pos tpos : Pos} {elts : List Expr} {kk : Nat} (hg : Gl X "enumerate") (hm : X.mg "enumerate" = none) (ha : PA X [e] ta) (hs : starEach [e] X.env = [(false, eval e X.env)]) :
    PI X (.Tuple elts kk tpos) (.Call (.Name "enumerate" p) [e] [] pos) (iEnumT X.K ta) := by
  refine ⟨fun pins s σ H R I h => ?_⟩
  refine Call_ (ld_blt I hg hm boot_enumerate (PyProof.Rows.callWith_type1 (thn (ha.run pos pins s σ H _ I h) fun us s1 ⟨vs, H1, I1, r1, q1⟩ => ?_) hs rfl))
  obtain ⟨a, xs, ex, hq, q⟩ := q1
  subst ex
  rw [Vals.ref1 r1]
  obtain ⟨its, rv, p', hz⟩ := I1.tuple hq
  refine call_enum1 (begins_tuple a its.toArray) (show s1.heap.IsTuple a its.toArray from p') fun h' he hit hsz hk => wpAny_pyIter_enum he ?_
  have I2 : Inv X pins σ H1 { s1 with heap := h' } := I1.kept (t' := s1.toks) hk
  refine ⟨s1.heap.objs.size + 1, [s1.heap.objs.size + 1, s1.heap.objs.size], _, _, H1, rfl, I2, turn_enumT a (s1.heap.objs.size + 1) s1.heap.objs.size, ⟨⟨.none, he⟩, ⟨_, hit, rfl, rfl⟩, Nat.succ_ne_self _⟩, fun b hb => ?_, q⟩
  have hle : s1.heap.objs.size ≤ b := by
    rcases (show b = s1.heap.objs.size + 1 ∨ b = s1.heap.objs.size by simpa using hb) with z | z
    · rw [z]; exact Nat.le_add_right _ _
    · rw [z]; exact Nat.le_refl _
  exact I1.fpOk hle (I1.hok.fresh hle)
theorem for_enumT {K : PySem.W.Frag} {a : Addr} {xs : List V} {g : TG} {tb : TS} {D : Ends} {σ : L2.St} {H : Hp} (Pv : Nat → L2.St → Hp → Prop) (h0 : Pv 0 σ H) (hq : ∀ i σ H, Pv i σ H → SqT K H a xs)
    (hs : ∀ (i : Nat) (x : V) (T : Addr) (σ : L2.St) (H : Hp), xs[i]? = some x → Pv i σ H → H T = none → g (.ref T) σ (upd H T (.tup [.int (i : Nat), x])) fun σ2 H2 => tb { D with nx := Pv (i + 1), ct := Pv (i + 1), bk := D.nx } σ2 H2) (hd : ∀ σ H, Pv xs.length σ H → D.nx σ H) :
    ∃ W : Nat → Nat → L2.St → Hp → Prop, (∃ m, W 0 m σ H) ∧ ∀ i m σ H, W i m σ H →
      ((IteT K a).stop i H ∧ D.nx σ H) ∨ ((IteT K a).go i H ∧ ∃ N : L2.St → Hp → Prop, (∀ σ' H', N σ' H' → ∃ m', m' < m ∧ W (i + 1) m' σ' H') ∧ ∀ v H', (IteT K a).yld i H v H' → g v σ H' fun σ2 H2 => tb { D with nx := N, ct := N, bk := D.nx } σ2 H2) := by
  refine ⟨fun i m σ H => m = xs.length - i ∧ i ≤ xs.length ∧ Pv i σ H, ⟨xs.length, rfl, Nat.zero_le _, h0⟩, ?_⟩
  rintro i m σ H ⟨rfl, hi, p⟩
  have qx := hq i σ H p
  by_cases hlt : i < xs.length
  · have hx : xs[i]? = some xs[i] := List.getElem?_eq_getElem hlt
    refine .inr ⟨⟨xs, _, qx, hx⟩, Pv (i + 1), fun σ' H' p' => ⟨xs.length - (i + 1), by omega, rfl, hlt, p'⟩, fun v H' y => ?_⟩
    obtain ⟨T, x', rfl, hT, rfl, f1⟩ := y
    exact hs i x' T σ H (f1 xs qx) p hT
  · have e : i = xs.length := by omega
    subst e
    exact .inl ⟨⟨xs, qx, rfl⟩, hd σ H p⟩
end TpS
namespace TpS
open PySem PySem.Spec PyProof.Rows L2
section
variable {X : Cx} {pins : List (Addr × Obj)} {σ : L2.St} {H : Hp} {s : Shared} {a b : Addr} {r : Value} {d : V} {A : Around} {E : Value → Shared → Prop}
/-- setdefault, the key a tuple -/
theorem d_setdT {kvs : List (List Key × V)} {k : List Key} {Q : Value → Shared → Prop} (hu : A.units + 1 < cLine) (I : Inv X pins σ H s) (e : H a = some (.dT kvs)) (eb : H b = some (.tup (k.map kV))) (rd : RelV d r) (hl : kvs.length < sizeLine)
    (h1 : ∀ v, valV kvs k = some v → ∀ (w' : Value) (s' : Shared), Inv X pins σ H s' → RelV v w' → Q w' s') (h2 : valV kvs k = none → ∀ (w' : Value) (s' : Shared), Inv X pins σ (upd H a (.dT (putK kvs k d))) s' → RelV d w' → Q w' s') :
    wpAny (model X.prog X.w) A (call (.builtin "dict.setdefault") [.ref a, .ref b, r]) Q E s := by
  obtain ⟨z, hd, xs, rel, dd⟩ := dt_of I.hok e
  have hz : xs.length ≤ sizeLine := by rw [← Paired.length rel]; exact z
  have rv := rel.val k
  refine call_setdefault_heap (hsz := hz) (tupleKind_room_in1 hu) (key_of I.hok eb) hd dd (fun p hp => ?_) fun hn h' dd' hs => ?_
  · rw [hp] at rv
    cases q0 : valV kvs k with
    | none => rw [q0] at rv; exact (show False from rv).elim
    | some v0 => rw [q0] at rv; exact h1 v0 q0 _ _ (I.tok _) rv
  · rw [hn] at rv
    cases q0 : valV kvs k with
    | some v0 => rw [q0] at rv; exact (show False from rv).elim
    | none =>
      have hl2 : (putK kvs k d).length ≤ sizeLine := by have := length_putK kvs k d; omega
      obtain ⟨q, es, ep, hq, g2, g3, g4, _, g5⟩ := dd'
      refine h2 q0 _ _ (d_write (t' := _) I (by rw [e]; exact True.intro) hs ⟨q, hq⟩ ⟨hl2, hd, _, (rel.put k eb rd).keeps fun c ys ec => ?_, q, es, ep, hq, g2, g3, g4, g5⟩) rd
      rw [upd_ne (fun y => by rw [y, e] at ec; exact nomatch ec)]
      exact ec
end
def tSetdT (td ty tx : TE) : TE := fun σ H Q => td σ H fun x H1 => ∃ a, x = .ref a ∧ IsD H1 a ∧ ty σ H1 fun y H2 => tx σ H2 fun z H3 => ∃ (kvs : List (List Key × V)) (k : List Key) (b : Addr), H3 a = some (.dT kvs) ∧ y = .ref b ∧ H3 b = some (.tup (k.map kV)) ∧ kvs.length < sizeLine ∧
  (∀ v, valV kvs k = some v → Q v H3) ∧ (valV kvs k = none → Q z (upd H3 a (.dT (putK kvs k z))))
section
variable {X : Cx} {o e f : Expr} {td ty tx : TE} {apos cpos : Pos}
theorem pe_setdT (hu : X.A.units + 1 < cLine) (ho : PE X o td) (he : PE X e ty) (hf : PE X f tx) (m : M2 X o "setdefault" apos e f cpos) : PE X (.Call (.Attribute o "setdefault" apos) [e, f] [] cpos) (tSetdT td ty tx) := by
  refine ⟨fun pins s σ H Q I h => ?_⟩
  refine wpAny_Call_method m.base m.few m.line PySem.F.plainAttrs_dict PySem.F.slot_dict_setdefault PySem.F.type_dict_setdefault (thn (ho.run pins s σ H _ I h) fun u s1 ⟨x, H1, I1, rx, a, ex, d, q1⟩ => ?_)
  subst ex
  obtain rfl : u = Value.ref a := rx
  obtain ⟨t1, t2, _⟩ := isD_at I1 d
  refine ⟨t1, t2, ?_⟩
  rw [m.trees]
  refine Calls.callWith_builtin rfl (Calls.evalArgs_plain (Calls.spliced_cons (thn (he.run pins s1 σ H1 _ I1 q1) fun iv s2 ⟨y, H2, I2, ry, q2⟩ =>
    Calls.spliced_cons (thn (hf.run pins s2 σ H2 _ I2 q2) fun fv s3 ⟨z, H3, I3, rz, kvs, k, b, ea, ey, eb, hl, q3, q4⟩ => Calls.spliced_nil ?_))))
  subst ey
  obtain rfl : iv = Value.ref b := ry
  exact d_setdT hu I3 ea eb rz hl (fun v hv w' s4 I4 rw' => ⟨v, _, I4, rw', q3 v hv⟩) fun hn w' s4 I4 rw' => ⟨z, _, I4, rw', q4 hn⟩
end
end TpS
namespace Tp
open PySem L2 TpS
/-! tables -/
def lkT (t : List (List Int × Int)) (k : List Int) : Option Int := (t.find? fun x => decide (x.1 = k)).map (·.2)
def sdT (t : List (List Int × Int)) (k : List Int) (v : Int) : List (List Int × Int) := match lkT t k with
  | none => t ++ [(k, v)]
  | some _ => t
theorem inl_inj : ∀ {a b : List Int}, a.map (Sum.inl : Int → Key) = b.map Sum.inl → a = b
  | [], [], _ => rfl
  | [], _ :: _, h => nomatch h
  | _ :: _, [], h => nomatch h
  | x :: a, y :: b, h => by
    have h' : (Sum.inl x : Key) :: a.map Sum.inl = Sum.inl y :: b.map Sum.inl := h
    injection h' with h1 h2
    rw [Sum.inl.inj h1, inl_inj h2]
theorem val_tab (k : List Int) : ∀ (t : List (List Int × Int)), valV (tabV t) (k.map Sum.inl) = (lkT t k).map V.int
  | [] => rfl
  | (q, v) :: t => by
    have ih := val_tab k t
    unfold tabV at ih ⊢
    unfold lkT at ih ⊢
    rw [List.map_cons, List.find?_cons]
    by_cases e : q = k
    · subst e; rw [valV_pos rfl, decide_eq_true rfl]; rfl
    · rw [valV_neg (fun z => e (inl_inj z)), decide_eq_false e]; exact ih
theorem kV_inl (k : List Int) : (k.map (Sum.inl : Int → Key)).map kV = k.map V.int := by rw [List.map_map]; rfl
theorem tabD_inj : ∀ {t u : List (List Int × Int)}, (t.map fun x => (PyData.tuple (x.1.map .int), PyData.int x.2)) = (u.map fun x => (PyData.tuple (x.1.map .int), PyData.int x.2)) → t = u
  | [], [], _ => rfl
  | [], _ :: _, h => nomatch h
  | _ :: _, [], h => nomatch h
  | (a, x) :: t, (b, y) :: u, h => by
    have h' : (PyData.tuple (a.map .int), PyData.int x) :: (t.map fun x => (PyData.tuple (x.1.map .int), PyData.int x.2)) = (PyData.tuple (b.map .int), PyData.int y) :: (u.map fun x => (PyData.tuple (x.1.map .int), PyData.int x.2)) := h
    injection h' with h1 h2
    injection h1 with h3 h4
    have h5 : ∀ {a b : List Int}, a.map PyData.int = b.map PyData.int → a = b := fun {a b} h => by
      induction a generalizing b with
      | nil => cases b with
        | nil => rfl
        | cons _ _ => exact nomatch h
      | cons x a ih => cases b with
        | nil => exact nomatch h
        | cons y b =>
          have h' : PyData.int x :: a.map PyData.int = PyData.int y :: b.map PyData.int := h
          injection h' with h1 h2
          rw [PyData.int.inj h1, ih h2]
    rw [h5 (PyData.tuple.inj h3), PyData.int.inj h4, tabD_inj h2]
section
variable {X : Cx} {B : Bx} {W : WX} {P : Po} {r q : List Sl} {e e2 a b o tg : Expr} {es elts : List Expr} {rest body orelse : List Stmt} {d dx dy : D} {ds ds2 : List D} {pos pos' p : Pos} {k kk n : Nat} {x : Str} {t : List (List Int × Int)} {ks : List Int}
theorem enTab : EN X B (.Dict [] [] pos) r (fun p => .ot p []) :=
  ⟨_, pe_dnewT, fun H σ S Q g => fun p hp => g p _ H (Same.refl H) hp rfl ⟨rfl, upd_same⟩⟩
/-- a new tuple of ints, to be a key -/
def EKt (X : Cx) (B : Bx) (e : Expr) (r : List Sl) (ks : List Int) : Prop :=
  ∃ te, PE X e te ∧ ∀ H σ, SOk X.K B r H σ → ∀ Q : VK, (∀ p H', Same H H' → H' p = some (.tup (ks.map V.int)) → Q (.ref p) H') → te σ H Q
theorem ektTup (h : EA X B es r (ks.map .int)) (hl : ks.length ≤ 100000 := by first | decide | simp) : EKt X B (.Tuple es n pos) r ks := by
  obtain ⟨t, p, q⟩ := h
  refine ⟨_, pe_tup p, fun H σ S Q g => q H σ S _ fun vs H1 s1 y => ?_⟩
  have ev := rp_ints y
  subst ev
  exact ⟨by rw [List.length_map]; exact line_of hl, fun l hl => g l _ (s1.trans (same_new hl)) upd_same⟩
theorem tabV_len (t : List (List Int × Int)) : (tabV t).length = t.length := List.length_map _
/-- x.setdefault(k, e), x an owned table -/
theorem sv_setd (i : Nat) {l : Addr} {j : Int} {pc cp : Pos} (g : Go X W kk) (hr : r[i]? = some (.ot l t)) (hk : EKt X B a r ks) (he : EV X B b r (.int j)) (hl : t.length < 100000) (h : SV X B W rest (r.set i (.ot l (sdT t ks j))) P) (hN : X.N[i]? = some x := by rfl) (hv : Vis X.env.scope x := by first | exact Or.inl rfl | exact Or.inr (Or.inl rfl) | exact Or.inr (Or.inr rfl)) (hd : (x == ("__debug__" : Str)) = false := by decide)
    (hcd : (x == ("__classdict__" : Str)) = false := by decide) (hs : swapsWith (.Call (.Attribute (.Name x pos') "setdefault" pc) [a, b] [] cp) none pos.line X.env = pure false := by rfl) (m : M2 X (.Name x pos') "setdefault" pc a b cp := by exact ⟨by rfl, by rfl, by rfl, by rfl⟩) :
    SV X B W (.Expr (.Call (.Attribute (.Name x pos') "setdefault" pc) [a, b] [] cp) pos :: rest) r P := fun H σ E S kt => by
  obtain ⟨tk, pk, qk⟩ := hk
  obtain ⟨te, pe, qe⟩ := he
  obtain ⟨e1, y⟩ := S.sl i _ hr
  refine ⟨_, pss_cons (ps_expr (pe_setdT (hu_of g.hr) (pe_var hN hv hd hcd) pk pe m) hs) wS_ok, _, e1, l, rfl, .inr ⟨_, .inl y⟩, qk H σ S _ fun kp H1 s1 yk => qe H1 σ (S.mono s1) _ fun v H2 s2 u => ?_⟩
  cases u
  have y2 : H2 l = some (.dT (tabV t)) := (s1.trans s2).k y
  refine ⟨_, ks.map Sum.inl, kp, y2, rfl, by rw [kV_inl]; exact s2.k yk, Nat.lt_of_lt_of_le (by rw [tabV_len]; exact hl) (by decide : 100000 ≤ sizeLine), fun v hv => ?_, fun hn => ?_⟩
  · rw [val_tab] at hv
    have S2 := S.mono (s1.trans s2)
    have e : sdT t ks j = t := by
      unfold sdT
      cases q0 : lkT t ks with
      | none => rw [q0] at hv; cases hv
      | some z => rfl
    rw [e] at h
    rw [show r.set i (.ot l t) = r from set_self hr] at h
    exact h H2 σ E S2 kt
  · have hn2 := hn
    rw [val_tab] at hn
    have e : sdT t ks j = t ++ [(ks, j)] := by
      unfold sdT
      cases q0 : lkT t ks with
      | some z => rw [q0] at hn; cases hn
      | none => rfl
    refine h _ σ E ((S.mono (s1.trans s2)).turn hr rfl rfl ⟨e1, ?_⟩) kt
    rw [upd_same, putK_new _ hn2, e]
    unfold tabV
    rw [List.map_append]; rfl
/-- x[k], x a table -/
theorem evTix {v : Int} (g : Go X W kk) (ho : EV X B o r (tabD t)) (hk : EKt X B e r ks) (hv : lkT t ks = some v) (hs : NoSl e := by first | exact fun _ => rfl | exact fun _ _ => rfl) : EV X B (.Subscript o e pos) r (.int v) := by
  obtain ⟨to, po, qo⟩ := ho
  obtain ⟨tk, pk, qk⟩ := hk
  refine ⟨_, pe_dget (hu_of g.hr) po pk hs, fun H σ S Q q => qo H σ S _ fun u H1 s1 y => qk H1 σ (S.mono s1) _ fun kp H2 s2 yk => ?_⟩
  generalize ed : tabD t = dd at y
  cases y with
  | dct h1 h2 =>
    rename_i a us kvs
    unfold tabD at ed
    injection ed with ed
    cases kvs with
    | nil => cases ed
    | cons x kvs =>
      injection ed with e1 e2
      injection e1 with e3 e4
      obtain ⟨kk, dd⟩ := x
      cases kk <;> cases e3
  | @tab a t' h1 =>
    unfold tabD at ed
    injection ed with ed
    injection ed with e1 e2
    obtain rfl := tabD_inj e2
    have h3 : H2 a = some (.dT (tabV t)) := s2.k (hide_same.k h1)
    refine ⟨a, .int v, rfl, ?_, q _ H2 (s1.trans s2) (.int v)⟩
    have g0 := DGet.t (k := ks.map Sum.inl) h3 (by rw [kV_inl]; exact yk)
    rw [val_tab, hv] at g0
    exact g0
  | non => unfold tabD at ed; cases ed
  | bl => unfold tabD at ed; cases ed
  | int => unfold tabD at ed; cases ed
  | str => unfold tabD at ed; cases ed
  | lst => unfold tabD at ed; cases ed
  | tup => unfold tabD at ed; cases ed
/-- for i, x in enumerate(t) -/
theorem sv_forE (I : Nat → List Sl → Prop) (tq : D → List Sl → List Sl) {p1 pc tpos : Pos} (g : Go X W k) (he : EV X B e r (.tuple ds)) (hm : X.mg "enumerate" = none) (ht : ∀ B (i : Nat) d r', ds[i]? = some d → GT X B (.Tuple elts kk tpos) r' (.tuple [.int (i : Int), d]) (tq (.tuple [.int (i : Int), d]) r')) (h0 : I 0 r)
    (hs : ∀ H1 (i : Nat) d r', ds[i]? = some d → I i r' → SV X ⟨H1, B.ps, B.ts, B.gr⟩ W body (tq (.tuple [.int (i : Int), d]) r') (P.loop (LN I (i + 1)) fun q => SV X B W rest q P)) (hd : ∀ r', I ds.length r' → SV X B W rest r' P) (hg : Gl X "enumerate" := by rfl)
    (hst : starEach [e] X.env = [(false, eval e X.env)] := by rfl) (hfs : ∀ v, foldedSetIterable (.Call (.Name "enumerate" p1) [e] [] pc) X.env v = pure v := by intro _; rfl) : SV X B W (.For (.Tuple elts kk tpos) (.Call (.Name "enumerate" p1) [e] [] pc) body [] pos :: rest) r P := fun H σ E S kt => by
  obtain ⟨te, pe, ke⟩ := he
  refine ⟨_, pss_cons (ps_for g.po g.calm (pi_enumT hg hm (pa_cons pe pa_nil (by rw [hst]; rfl)) hst) (wG_ok (tg := .Tuple elts kk tpos)) (wS_ok (sts := body)) hfs) wS_ok, ?_⟩
  refine ke H σ S _ fun v H1 s1 y => ?_
  have S1 := S.mono s1
  cases y with
  | @tup a xs _ h1 h2 =>
    have z1 : SqT X.K (hide H1 (own r)) a xs := seqT (hide_sub fun p hp => List.mem_append_left _ hp : Same (hid B r H1) (hide H1 (own r))) h1
    have z2 : RpA X.K (hide (hide H1 (own r)) B.ps) xs ds := h2.mono fun b o eo => by
      have eo : hide H1 (own r ++ B.ps) b = some o := eo
      by_cases hb : b ∈ own r ++ B.ps
      · rw [hide_in hb] at eo; cases eo
      · rw [hide_out hb] at eo
        rw [hide_out fun w => hb (List.mem_append_right _ w), hide_out fun w => hb (List.mem_append_left _ w)]
        exact .inl eo
    refine ⟨a, xs, rfl, seqT hide_same h1, ?_⟩
    have hl : xs.length = ds.length := h2.len
    refine for_enumT (g := wG X (.Tuple elts kk tpos)) (tb := wS X body) (D := { E with nx := wS X rest E }) (K := X.K) (a := a) (xs := xs) (fun i σ' H' => ∃ r', SOk X.K (B.at r H1) r' H' σ' ∧ I i r') ⟨r, S1.rebase, h0⟩ (fun i σ' H' ⟨r', S', hI⟩ => seqT S'.ex (H := hide H1 (own r)) z1) (fun i x T σ' H' hi ⟨r', S', hI⟩ hT => ?_) (fun σ' H' ⟨r', S', hI⟩ => hd r' (hl ▸ hI) H' σ' E (S1.back S') kt)
    obtain ⟨d, hd', rd⟩ := z2.getV hi
    obtain ⟨gx, px, kx⟩ := ht (B.at r H1) i d r' hd'
    have rd' : Rp X.K (hid (B.at r H1) r' H') x d := rd.mono fun b o eo => by
      show Ext1 o (hide H' (own r' ++ B.ps) b)
      by_cases hb : b ∈ B.ps
      · rw [hide_in hb] at eo; cases eo
      · rw [hide_out hb] at eo
        have e2 : Ext1 o (H' b) := S'.ex b o eo
        rw [hide_out fun w => (List.mem_append.mp w).elim (fun w' => by
          have := S'.new b w'
          rw [show (B.at r H1).H0 b = some o from eo] at this
          cases this) hb]
        exact e2
    have sT : Same H' (upd H' T (.tup [.int (i : Nat), x])) := same_new hT
    have S2 := S'.mono sT
    refine ⟨gx, px, kx _ σ' _ S2 (.tup (SqT.of (hide_new hT S'.dom)) (.cons (.int _) (.cons (rd'.mono (hide_mono sT)) .nil))) _ fun σ2 S3 => hs (hide H1 (own r)) i d r' hd' hI _ σ2 _ S3 (Kt.loop S1 kt _ fun q H3 σ3 S3 hI3 => ⟨q, S3, hI3⟩)⟩
/-- for x, y in zip(xs, ys), lists of one length -/
theorem sv_forZ (I : Nat → List Sl → Prop) (tq : D → List Sl → List Sl) {p1 pc tpos : Pos} (g : Go X W k) (he : EA X B [e, e2] r [.list ds, .list ds2]) (hlen : ds.length = ds2.length) (hm : X.mg "zip" = none) (ht : ∀ B (i : Nat) d d2 r', ds[i]? = some d → ds2[i]? = some d2 → GT X B (.Tuple elts kk tpos) r' (.tuple [d, d2]) (tq (.tuple [d, d2]) r')) (h0 : I 0 r)
    (hs : ∀ H1 (i : Nat) d d2 r', ds[i]? = some d → ds2[i]? = some d2 → I i r' → SV X ⟨H1, B.ps, B.ts, B.gr⟩ W body (tq (.tuple [d, d2]) r') (P.loop (LN I (i + 1)) fun q => SV X B W rest q P)) (hd : ∀ r', I ds.length r' → SV X B W rest r' P) (hg : Gl X "zip" := by rfl)
    (hst : starEach [e, e2] X.env = (false, eval e X.env) :: starEach [e2] X.env := by rfl) (hpl : (backTo pc (starEach [e2] X.env)).any (·.1) = false := by rfl) (hfs : ∀ v, foldedSetIterable (.Call (.Name "zip" p1) [e, e2] [] pc) X.env v = pure v := by intro _; rfl) : SV X B W (.For (.Tuple elts kk tpos) (.Call (.Name "zip" p1) [e, e2] [] pc) body [] pos :: rest) r P := fun H σ E S kt => by
  obtain ⟨te, pe, ke⟩ := he
  refine ⟨_, pss_cons (ps_for g.po g.calm (RZ.pi_zipA hg hm pe hst hpl) (wG_ok (tg := .Tuple elts kk tpos)) (wS_ok (sts := body)) hfs) wS_ok, ?_⟩
  refine ke H σ S _ fun vs H1 s1 y => ?_
  have S1 := S.mono s1
  have up : ∀ {c : Addr} {zs : List V} {es : List D}, SqL X.K (hid B r H1) c zs → RpA X.K (hid B r H1) zs es → SqL X.K (hide H1 (own r)) c zs ∧ RpA X.K (hide (hide H1 (own r)) B.ps) zs es := fun {c zs es} h1 h2 => by
    refine ⟨(hide_sub fun p hp => List.mem_append_left _ hp : Same (hid B r H1) (hide H1 (own r))).seq h1, h2.mono fun b o eo => ?_⟩
    have eo : hide H1 (own r ++ B.ps) b = some o := eo
    by_cases hb : b ∈ own r ++ B.ps
    · rw [hide_in hb] at eo; cases eo
    · rw [hide_out hb] at eo
      rw [hide_out fun w => hb (List.mem_append_right _ w), hide_out fun w => hb (List.mem_append_left _ w)]
      exact .inl eo
  cases y with
  | cons y1 yr =>
    cases yr with
    | cons y2 yn =>
      cases yn
      cases y1 with
      | @lst a xs _ h1 h2 =>
        cases y2 with
        | @lst b ys _ h3 h4 =>
          obtain ⟨z1, z2⟩ := up h1 h2
          obtain ⟨z3, z4⟩ := up h3 h4
          have hl : xs.length = ds.length := h2.len
          have hl2 : ys.length = ds2.length := h4.len
          refine ⟨a, b, xs, ys, rfl, .inl ⟨hide_same.seq h1, hide_same.seq h3, ?_⟩⟩
          refine RZ.for_zipL (g := wG X (.Tuple elts kk tpos)) (tb := wS X body) (D := { E with nx := wS X rest E }) (K := X.K) (a := a) (b := b) (xs := xs) (ys := ys) (by rw [hl, hl2]; exact hlen) (fun i σ' H' => ∃ r', SOk X.K (B.at r H1) r' H' σ' ∧ I i r') ⟨r, S1.rebase, h0⟩ (fun i σ' H' ⟨r', S', hI⟩ => ⟨S'.ex.seq (H := hide H1 (own r)) z1, S'.ex.seq (H := hide H1 (own r)) z3⟩) (fun i x y T σ' H' hi hi2 ⟨r', S', hI⟩ hT => ?_) (fun σ' H' ⟨r', S', hI⟩ => hd r' (hl ▸ hI) H' σ' E (S1.back S') kt)
          obtain ⟨d, hd', rd⟩ := z2.getV hi
          obtain ⟨d2, hd2', rd2⟩ := z4.getV hi2
          obtain ⟨gx, px, kx⟩ := ht (B.at r H1) i d d2 r' hd' hd2'
          have see : Same (hide (hide H1 (own r)) B.ps) (hid (B.at r H1) r' H') := fun b o eo => by
            show Ext1 o (hide H' (own r' ++ B.ps) b)
            by_cases hb : b ∈ B.ps
            · rw [hide_in hb] at eo; cases eo
            · rw [hide_out hb] at eo
              have e2 : Ext1 o (H' b) := S'.ex b o eo
              rw [hide_out fun w => (List.mem_append.mp w).elim (fun w' => by
                have := S'.new b w'
                rw [show (B.at r H1).H0 b = some o from eo] at this
                cases this) hb]
              exact e2
          have sT : Same H' (upd H' T (.tup [x, y])) := same_new hT
          have S2 := S'.mono sT
          exact ⟨gx, px, kx _ σ' _ S2 (.tup (SqT.of (hide_new hT S'.dom)) (.cons ((rd.mono see).mono (hide_mono sT)) (.cons ((rd2.mono see).mono (hide_mono sT)) .nil))) _ fun σ2 S3 => hs (hide H1 (own r)) i d d2 r' hd' hd2' hI _ σ2 _ S3 (Kt.loop S1 kt _ fun q H3 σ3 S3 hI3 => ⟨q, S3, hI3⟩)⟩
end
end Tp

namespace Tp
open PySem L2
/-! ### objects that are read, objects that turn: one promise for both -/
/-- arguments, ghosts that are only read, ghosts that may turn; what is wanted of the result and of the ghosts behind it; of an exception -/
abbrev CtM := List It → List (Addr × Nd) → List (Addr × Nd) → (Rs → List (Addr × Nd) → Prop) → (Addr → List (Addr × Nd) → Prop) → Prop
def spM (T : List Addr) (K : PySem.W.Frag) (c : CtM) : Sp := fun vs H Q E => ∃ ps gr gl its Po Ex, (∀ t ∈ T, TabG H t) ∧ (∀ p ∈ ps, H p ≠ none) ∧ (gown gl).Nodup ∧ (∀ p ∈ gown gl, p ∉ ps) ∧ (∀ p ∈ gown gr, p ∈ ps) ∧ GOk K (hide H (gown gl ++ ps)) H gl ∧ GOk K (hide H (gown gl ++ ps)) H gr ∧ ItA K (hide H (gown gl ++ ps)) vs its ∧ c its gr gl Po Ex ∧
  (∀ s v gl' H', GNew gl gl' H H' → GOk K (hide H' (gown gl' ++ ps)) H' gl' → RsO K (hide H' (gown gl' ++ ps)) v s → Po s gl' → Q v H') ∧ ∀ C gl' H', GNew gl gl' H H' → GOk K (hide H' (gown gl' ++ ps)) H' gl' → Ex C gl' → E (.ref C) none H'
theorem fn_m {P : Program} {w : World} {T : List Addr} {K : PySem.W.Frag} {mg : Str → Option Value} {base : Heap} {x qual : Str} {st : Stmt} {f : Addr} {fd : FuncData} {N ps : List Str} {k : Nat} {c : CtM} (iG : Nat) (F : Fun K x qual st f fd) (S : FnScope N ps (defScope st))
    (hl : ∀ its gr gl Q E, c its gr gl Q E → its.length = ps.length) (hN : ps.length + 1 ≤ N.length)
    (body : ∀ (cdv : Value) (A : Around) (outer : List Env) (s : Shared) (H H0 : Hp) (E : XK) (qs : List Addr) (its : List It) (gr gl : List (Addr × Nd)) (Q : Rs → List (Addr × Nd) → Prop) (Ex : Addr → List (Addr × Nd) → Prop), Go (cxOf (L2.CX P w) P w K mg base N qual (defScope st) f cdv A outer s H E) (fun cls d _ H => E cls d H) k → c its gr gl Q Ex →
      SV (cxOf (L2.CX P w) P w K mg base N qual (defScope st) f cdv A outer s H E) ⟨H0, qs, T, gr⟩ (fun cls d _ H => E cls d H) (defBody st) (iniO N its gl) { nx := fun r => ∃ gl', r[iG]? = some (.gs gl') ∧ Q (.da .none) gl', rt := fun s r => isO s = true ∧ ∃ gl', r[iG]? = some (.gs gl') ∧ Q s gl', ex := fun C r => ∃ gl', r[iG]? = some (.gs gl') ∧ Ex C gl' }) :
    FnOk P w K mg base (L2.CX P w) (k + 1) f fd ps (spM T K c) := by
  refine F.okX S (fun vs H Q E h => ?_) (fun cdv A outer s H vs Q E hr h => ?_)
  · obtain ⟨qs, gr, gl, its, Po, Ex, _, _, _, _, _, _, _, A, hc, _⟩ := h
    rw [A.len]
    exact hl _ _ _ _ _ hc
  · obtain ⟨qs, gr, gl, its, Po, Ex, tb, hp, nd, ap, gp, G, G2, A', hc, k1, k2⟩ := h
    have Go' : Go (cxOf (L2.CX P w) P w K mg base N qual (defScope st) f cdv A outer s H E) (fun cls d _ H => E cls d H) k :=
      ⟨hr, rfl, passes_of rfl, takes_of rfl rfl rfl rfl, S.nd⟩
    have new : ∀ {r : List Sl} {H' : Hp} {σ' : St} {gl' : List (Addr × Nd)}, SOk K ⟨hide H (gown gl), qs, T, gr⟩ r H' σ' → r[iG]? = some (.gs gl') → GNew gl gl' H H' ∧ GOk K (hide H' (gown gl' ++ qs)) H' gl' := fun {r H' σ' gl'} S' hG => by
      obtain ⟨G', nd'⟩ := S'.ghosts hG
      refine ⟨⟨fun a o e ha => S'.ex a o (by show hide H (gown gl) a = some o; rw [hide_out ha]; exact e), nd', fun p hp' => ?_⟩, GOk.mono (hide_sub fun p hp' => (List.mem_append.mp hp').elim (fun z => List.mem_append_left _ (mem_own hG z)) fun z => List.mem_append_right _ z) (fun _ _ => rfl) G'⟩
      have h0 := S'.new p (mem_own hG hp')
      by_cases hz : p ∈ gown gl
      · exact .inl hz
      · refine .inr ?_
        have h0 : hide H (gown gl) p = none := h0
        rw [hide_out hz] at h0
        exact h0
    have S0 := sok_iniO (T := T) (N := N) tb hp nd ap G A' (by rw [hl _ _ _ _ _ hc]; exact hN)
    have S1 : SOk K ⟨hide H (gown gl), qs, T, gr⟩ (iniO N its gl) H (L2.start N vs) := ⟨S0.ex, S0.old, S0.new, S0.nd, S0.len, S0.sl, S0.tb, by show GOk K (hide H (own (iniO N its gl) ++ qs)) H gr; rw [own_iniO]; exact G2, gp⟩
    refine ⟨_, wS_ok, body cdv A outer s H (hide H (gown gl)) E qs its gr gl Po Ex Go' hc H _ _ S1 ⟨fun r σ' H' S' hq => ?_, fun s v r σ' H' S' y hq => ?_, fun _ _ _ _ z => z.elim, fun _ _ _ _ z => z.elim, fun C r σ' H' S' hx => ?_⟩⟩
    · obtain ⟨gl', hG, hq⟩ := hq
      obtain ⟨n1, n2⟩ := new S' hG
      exact k1 (.da .none) .non gl' H' n1 n2 (show Rp K _ V.non .none from .non) hq
    · obtain ⟨hi, gl', hG, hq⟩ := hq
      obtain ⟨n1, n2⟩ := new S' hG
      refine k1 s v gl' H' n1 n2 ?_ hq
      cases s with
      | da d => exact Rp.mono (hide_sub fun p hp' => (List.mem_append.mp hp').elim (fun z => List.mem_append_left _ (mem_own hG z)) fun z => List.mem_append_right _ z) y
      | rf a => exact y
      | nl _ => cases hi
      | nd _ => cases hi
    · obtain ⟨gl', hG, hq⟩ := hx
      obtain ⟨n1, n2⟩ := new S' hG
      exact k2 C gl' H' n1 n2 hq
/-! ### where a ghost lies -/
def InG (B : Bx) (r : List Sl) (x : Addr × Nd) : Prop := x ∈ B.gr ∨ ∃ (i : Nat) (gl : List (Addr × Nd)), r[i]? = some (.gs gl) ∧ x ∈ gl
section
variable {K : PySem.W.Frag} {B : Bx} {r : List Sl} {gl g1 g2 gr : List (Addr × Nd)} {x : Addr × Nd} {H H' : Hp} {σ : St}
theorem inG_s (i j : Nat) (h : r[i]? = some (.gs gl)) (hj : gl[j]? = some x) : InG B r x := .inr ⟨i, gl, h, List.mem_of_getElem? hj⟩
theorem inG_g (j : Nat) (hj : B.gr[j]? = some x) : InG B r x := .inl (List.mem_of_getElem? hj)
theorem alG_n : ∀ x ∈ ([] : List (Addr × Nd)), InG B r x := fun _ h => nomatch h
theorem alG_c (h : InG B r x) (hr : ∀ y ∈ gr, InG B r y) : ∀ y ∈ x :: gr, InG B r y := fun y hy => (List.mem_cons.mp hy).elim (fun z => z ▸ h) (hr y)
theorem alG_a (h : ∀ y ∈ g1, InG B r y) (hr : ∀ y ∈ g2, InG B r y) : ∀ y ∈ g1 ++ g2, InG B r y := fun y hy => (List.mem_append.mp hy).elim (h y) (hr y)
theorem gown_in : ∀ {gl : List (Addr × Nd)} {p : Addr}, p ∈ gown gl → ∃ x ∈ gl, p ∈ own1 x.1 x.2
  | [], _, h => nomatch h
  | (a, n) :: gl, p, h => by
    rw [gown_cons] at h
    rcases List.mem_append.mp h with h | h
    · exact ⟨_, List.mem_cons_self, h⟩
    · obtain ⟨x, h1, h2⟩ := gown_in h
      exact ⟨x, List.mem_cons_of_mem _ h1, h2⟩
theorem gown_of : ∀ {gl : List (Addr × Nd)} {x : Addr × Nd} {p : Addr}, x ∈ gl → p ∈ own1 x.1 x.2 → p ∈ gown gl
  | (a, n) :: gl, x, p, h, hp => by
    rw [gown_cons]
    rcases List.mem_cons.mp h with e | h
    · subst e; exact List.mem_append_left _ hp
    · exact List.mem_append_right _ (gown_of h hp)
theorem GOk.memb {Hh : Hp} : ∀ {gl : List (Addr × Nd)} {x : Addr × Nd}, GOk K Hh H gl → x ∈ gl → NdOk K Hh H x.1 x.2
  | (a, n) :: gl, x, g, h => by
    rcases List.mem_cons.mp h with e | h
    · subst e; exact g.1
    · exact GOk.memb g.2 h
theorem GOk.all {Hh : Hp} : ∀ {gl : List (Addr × Nd)}, (∀ x ∈ gl, NdOk K Hh H x.1 x.2) → GOk K Hh H gl
  | [], _ => trivial
  | (a, n) :: gl, h => ⟨h _ List.mem_cons_self, GOk.all fun x hx => h x (List.mem_cons_of_mem _ hx)⟩
theorem InG.ok (S : SOk K B r H σ) (h : InG B r x) : NdOk K (hid B r H) H x.1 x.2 := by
  rcases h with h | ⟨i, gl, hi, h⟩
  · exact S.gr.memb h
  · exact GOk.memb (S.sl i _ hi) h
theorem InG.own (S : SOk K B r H σ) (h : InG B r x) : ∀ p ∈ own1 x.1 x.2, p ∈ own r ++ B.ps := fun p hp => by
  rcases h with h | ⟨i, gl, hi, h⟩
  · exact List.mem_append_right _ (S.gp p (gown_of h hp))
  · exact List.mem_append_left _ (mem_own hi (gown_of h hp))
theorem perm_n : gl.Perm ([] ++ gl) := .refl _
theorem erase_perm {α : Type} {x : α} : ∀ {l : List α} {j : Nat}, l[j]? = some x → l.Perm (x :: l.eraseIdx j)
  | [], _, h => by simp at h
  | y :: l, 0, h => by simp at h; subst h; exact .refl _
  | y :: l, j + 1, h => ((erase_perm (l := l) (j := j) (by simpa using h)).cons y).trans (.swap x y _)
theorem perm_c (j : Nat) (h : gl[j]? = some x) (hp : (gl.eraseIdx j).Perm (g1 ++ g2)) : gl.Perm ((x :: g1) ++ g2) := (erase_perm h).trans (hp.cons x)
end
section
variable {X : Cx} {B : Bx} {W : WX} {P : Po} {r q : List Sl} {e a b o tg : Expr} {es : List Expr} {kws : List Keyword} {rest body orelse : List Stmt} {d : D} {ds : List D} {pos pos' p1 apos : Pos} {k kk n : Nat} {x f m : Str} {ks : List Str} {gl g1 g2 gr : List (Addr × Nd)} {p C dx l : Addr} {fs : List (Str × It)} {t : It} {its iks : List It} {c : CtM} {Po : Rs → Prop} {Po2 Po3 : Rs → List (Addr × Nd) → Prop} {Ex : Addr → Prop} {Ex2 Ex3 : Addr → List (Addr × Nd) → Prop}
/-! reading -/
theorem evFldI (he : ER X B e r p) (hG : InG B r (p, .ob C dx fs)) (hf : FdAt X.K C fs f (.da d)) (hb : attributeBase e f X.env (eval e X.env) = eval e X.env := by rfl) : EV X B (.Attribute e f pos) r d := by
  obtain ⟨te, pp, kk⟩ := he
  refine ⟨_, pe_fld pp hb, fun H σ S Q q => kk H σ S _ fun H1 s1 => ?_⟩
  obtain ⟨vs, e1, e2, y⟩ := hG.ok (S.mono s1)
  obtain ⟨v, l1, rv⟩ := y.lookup hf.look
  exact ⟨p, C, dx, vs, v, rfl, e1, hf.cl, hf.na, l1, q v H1 s1 rv⟩
theorem erFldI (he : ER X B e r p) (hG : InG B r (p, .ob C dx fs)) (hf : FdAt X.K C fs f (.rf l)) (hb : attributeBase e f X.env (eval e X.env) = eval e X.env := by rfl) : ER X B (.Attribute e f pos) r l := by
  obtain ⟨te, pp, kk⟩ := he
  refine ⟨_, pe_fld pp hb, fun H σ S Q q => kk H σ S _ fun H1 s1 => ?_⟩
  obtain ⟨vs, e1, e2, y⟩ := hG.ok (S.mono s1)
  obtain ⟨v, l1, rv⟩ := y.lookup hf.look
  cases rv
  exact ⟨p, C, dx, vs, _, rfl, e1, hf.cl, hf.na, l1, q H1 s1⟩
theorem ER.listI (he : ER X B e r l) (hG : InG B r (l, Nd.ls (ds.map It.da))) : ES X B e r false ds := by
  obtain ⟨te, pp, kk⟩ := he
  refine ⟨te, pp, fun H σ S Q q => kk H σ S _ fun H1 s1 => ?_⟩
  obtain ⟨vs, e1, y⟩ := hG.ok (S.mono s1)
  exact q l vs H1 s1 (SqL.of e1) y.das
/-! arguments -/
def EAi (X : Cx) (B : Bx) (es : List Expr) (r : List Sl) (its : List It) : Prop :=
  ∃ ta, PA X es ta ∧ ∀ H σ, SOk X.K B r H σ → ∀ Q : List V → Hp → Prop, (∀ vs H', Same H H' → ItA X.K (hid B r H') vs its → Q vs H') → ta σ H Q
theorem eaiN : EAi X B [] r [] := ⟨_, pa_nil, fun H σ _ Q q => q [] H (Same.refl _) .nil⟩
theorem eaiD (h : EV X B e r d) (hr : EAi X B es r its) (hst : NSt X e := by exact fun _ => rfl) : EAi X B (e :: es) r (.da d :: its) := by
  obtain ⟨t, p, q⟩ := h
  obtain ⟨t', p', q'⟩ := hr
  exact ⟨_, pa_cons p p' (hst _), fun H σ S Q g => q H σ S _ fun v H1 s1 y => q' H1 σ (S.mono s1) _ fun vs H2 s2 z => g _ H2 (s1.trans s2) (.cons (Rp.mono (hide_mono s2) y) z)⟩
theorem eaiR (h : ER X B e r p) (hr : EAi X B es r its) (hst : NSt X e := by exact fun _ => rfl) : EAi X B (e :: es) r (.rf p :: its) := by
  obtain ⟨t, pp, q⟩ := h
  obtain ⟨t', p', q'⟩ := hr
  exact ⟨_, pa_cons pp p' (hst _), fun H σ S Q g => q H σ S _ fun H1 s1 => q' H1 σ (S.mono s1) _ fun vs H2 s2 z => g _ H2 (s1.trans s2) (.cons rfl z)⟩
def EKi (X : Cx) (B : Bx) (kws : List Keyword) (r : List Sl) (its : List It) : Prop :=
  ∃ ta, PK X kws ta ∧ ∀ H σ, SOk X.K B r H σ → ∀ Q : List V → Hp → Prop, (∀ vs H', Same H H' → ItA X.K (hid B r H') vs its → Q vs H') → ta σ H Q
theorem ekiN : EKi X B [] r [] := ⟨_, pk_nil, fun H σ _ Q q => q [] H (Same.refl _) .nil⟩
theorem ekiD {nm : Option Str} {kpos : Pos} (h : EV X B e r d) (hr : EKi X B kws r its) : EKi X B (⟨nm, e, kpos⟩ :: kws) r (.da d :: its) := by
  obtain ⟨t, p, q⟩ := h
  obtain ⟨t', p', q'⟩ := hr
  exact ⟨_, pk_cons p p', fun H σ S Q g => q H σ S _ fun v H1 s1 y => q' H1 σ (S.mono s1) _ fun vs H2 s2 z => g _ H2 (s1.trans s2) (.cons (Rp.mono (hide_mono s2) y) z)⟩
theorem ekiR {nm : Option Str} {kpos : Pos} (h : ER X B e r p) (hr : EKi X B kws r its) : EKi X B (⟨nm, e, kpos⟩ :: kws) r (.rf p :: its) := by
  obtain ⟨t, pp, q⟩ := h
  obtain ⟨t', p', q'⟩ := hr
  exact ⟨_, pk_cons pp p', fun H σ S Q g => q H σ S _ fun H1 s1 => q' H1 σ (S.mono s1) _ fun vs H2 s2 z => g _ H2 (s1.trans s2) (.cons rfl z)⟩
/-! what a callee may ask -/
theorem spM_read {H : Hp} {σ : St} {vs : List V} {Q : VK} {E : XK} (S : SOk X.K B r H σ) (hr : ∀ x ∈ gr, InG B r x) (A : ItA X.K (hid B r H) vs its) (hc : c its gr [] Po2 Ex2)
    (k1 : ∀ s v g' H', Same H H' → RsO X.K (hid B r H') v s → Po2 s g' → Q v H') (k2 : ∀ C g' H', Same H H' → Ex2 C g' → E (.ref C) none H') : spM B.ts X.K c vs H Q E := by
  refine ⟨own r ++ B.ps, gr, [], its, Po2, Ex2, S.tb, S.dom, List.nodup_nil, (fun _ h => nomatch h), fun p hp => ?_, trivial, GOk.all fun x hx => (hr x hx).ok S, A, hc, fun s v g' H' nw _ ro ho => ?_, fun C g' H' nw _ hx => k2 C g' H' (fun a o e => nw.k a o e (List.not_mem_nil)) hx⟩
  · obtain ⟨x, h1, h2⟩ := gown_in hp
    exact (hr x h1).own S p h2
  · refine k1 s v g' H' (fun a o e => nw.k a o e (List.not_mem_nil)) ?_ ho
    cases s with
    | da d => exact Rp.mono (hide_sub fun q hq => List.mem_append_right _ hq) ro
    | rf a => exact ro
    | nl _ => exact ro
    | nd _ => exact ro
theorem spM_own {iG : Nat} {H : Hp} {σ : St} {vs : List V} {Q : VK} {E : XK} (S : SOk X.K B r H σ) (hG : r[iG]? = some (.gs gl)) (hp : gl.Perm (g1 ++ g2)) (hr : ∀ x ∈ gr, x ∈ g2 ∨ x ∈ B.gr) (A : ItA X.K (hid B r H) vs its) (hc : c its gr g1 Po2 Ex2)
    (k1 : ∀ s v g' H', SOk X.K B (r.set iG (.gs (g' ++ g2))) H' σ → RsO X.K (hid B (r.set iG (.gs (g' ++ g2))) H') v s → Po2 s g' → Q v H') (k2 : ∀ C g' H', SOk X.K B (r.set iG (.gs (g' ++ g2))) H' σ → Ex2 C g' → E (.ref C) none H') : spM B.ts X.K c vs H Q E := by
  obtain ⟨G, nd⟩ := S.ghosts hG
  have hi := (List.getElem?_eq_some_iff.mp hG).1
  have own_e : ∀ q, q ∈ gown gl ↔ q ∈ gown g1 ∨ q ∈ gown g2 := fun q => by rw [(gown_perm hp).mem_iff, gown_app, List.mem_append]
  have Gp : GOk X.K (hid B r H) H (g1 ++ g2) := GOk.perm hp G
  have nd2 : (gown g1 ++ gown g2).Nodup := by rw [← gown_app]; exact (gown_perm hp).nodup_iff.mp nd
  obtain ⟨n1, n2, n3⟩ := List.nodup_append.mp nd2
  have hr0 : r.set iG (.gs gl) = r := set_self hG
  -- what the callee must leave alone
  have hrg : ∀ q, q ∈ own r → q ∈ gown gl ∨ q ∈ own (r.set iG .no) := fun q hq => own_set2 (s := .gs gl) (r := r) (i := iG) (by rw [hr0]; exact hq)
  have ap2 : ∀ q ∈ gown gl, q ∉ own (r.set iG .no) := fun q hq => by
    have key : ∀ {g : List Sl} {i : Nat}, g[i]? = some (.gs gl) → (own g).Nodup → q ∉ own (g.set i .no) := by
      intro g
      induction g with
      | nil => intro i h; simp at h
      | cons a g ih =>
        intro i h nd
        have nd : (ownOf a ++ own g).Nodup := nd
        obtain ⟨n1, n2, n3⟩ := List.nodup_append.mp nd
        cases i with
        | zero =>
          simp at h; subst h
          intro w
          have w : q ∈ own g := w
          exact n3 q hq q w rfl
        | succ i =>
          have hi : g[i]? = some (.gs gl) := by simpa using h
          intro w
          rcases List.mem_append.mp w with w | w
          · exact n3 q w q (mem_own hi hq) rfl
          · exact ih hi n2 w
    exact key hG S.nd
  have old : ∀ q ∈ gown gl, q ∉ B.ps := fun q hq z => S.old q z (S.new q (mem_own hG hq))
  have memb : ∀ {x : Addr × Nd}, x ∈ gl ↔ x ∈ g1 ∨ x ∈ g2 := by intro x; rw [hp.mem_iff, List.mem_append]
  have inr' : ∀ x ∈ gr, InG B r x := fun x hx => (hr x hx).elim (fun z => .inr ⟨iG, gl, hG, memb.mpr (.inr z)⟩) .inl
  have back : ∀ {g' : List (Addr × Nd)} {H' : Hp}, GNew g1 g' H H' → GOk X.K (hide H' (gown g' ++ (gown g2 ++ (own (r.set iG .no) ++ B.ps)))) H' g' → SOk X.K B (r.set iG (.gs (g' ++ g2))) H' σ ∧ (∀ q ∈ own (r.set iG (.gs (g' ++ g2))) ++ B.ps, q ∈ gown g' ++ (gown g2 ++ (own (r.set iG .no) ++ B.ps))) := fun {g' H'} nw g => by
    have sub : ∀ q ∈ own (r.set iG (.gs (g' ++ g2))) ++ B.ps, q ∈ gown g' ++ (gown g2 ++ (own (r.set iG .no) ++ B.ps)) := fun q hq => by
      rcases List.mem_append.mp hq with z | z
      · rcases own_set2 z with y | y
        · have y : q ∈ gown (g' ++ g2) := y
          rw [gown_app] at y
          rcases List.mem_append.mp y with y | y
          · exact List.mem_append_left _ y
          · exact List.mem_append_right _ (List.mem_append_left _ y)
        · exact List.mem_append_right _ (List.mem_append_right _ (List.mem_append_left _ y))
      · exact List.mem_append_right _ (List.mem_append_right _ (List.mem_append_right _ z))
    refine ⟨S.gset hG (fun a o ea ha => nw.k a o ea fun z => ha ((own_e a).mpr (.inl z))) ?_ ?_ fun hh => ?_, sub⟩
    · rw [gown_app]
      refine List.nodup_append.mpr ⟨nw.nd, n2, fun x hx y hy e => ?_⟩
      subst e
      rcases nw.nw x hx with z | z
      · exact n3 x z x hy rfl
      · obtain ⟨u, eu, _⟩ := GOk.there G ((own_e x).mpr (.inr hy))
        rw [z] at eu; cases eu
    · intro q hq
      rw [gown_app] at hq
      rcases List.mem_append.mp hq with z | z
      · rcases nw.nw q z with y | y
        · exact .inl ((own_e q).mpr (.inl y))
        · exact .inr y
      · exact .inl ((own_e q).mpr (.inr z))
    · refine GOk.app (GOk.mono (hide_sub sub) (fun _ _ => rfl) g) (GOk.mono hh (fun q hq => ?_) (GOk.all fun x hx => Gp.memb (List.mem_append_right _ hx)))
      obtain ⟨u, eu, nt⟩ := GOk.there G ((own_e q).mpr (.inr hq))
      rw [eu]
      exact (nw.k q u eu fun z => n3 q z q hq rfl).nt nt
  have hsub : ∀ q ∈ gown g1 ++ (gown g2 ++ (own (r.set iG .no) ++ B.ps)), q ∈ own r ++ B.ps := fun q hq => by
    rcases List.mem_append.mp hq with z | z
    · exact List.mem_append_left _ (mem_own hG ((own_e q).mpr (.inl z)))
    · rcases List.mem_append.mp z with z | z
      · exact List.mem_append_left _ (mem_own hG ((own_e q).mpr (.inr z)))
      · rcases List.mem_append.mp z with z | z
        · exact List.mem_append_left _ (by have := own_no_sub (s := .gs gl) z; rw [hr0] at this; exact this)
        · exact List.mem_append_right _ z
  refine ⟨gown g2 ++ (own (r.set iG .no) ++ B.ps), gr, g1, its, Po2, Ex2, S.tb, fun q hq => S.dom q (hsub q (List.mem_append_right _ hq)), n1, fun q hq z => ?_, fun q hq => ?_, ?_, ?_, ItA.mono (hide_sub hsub) A, hc, fun s v g' H' nw g ro ho => ?_, fun C g' H' nw g hx => k2 C g' H' (back nw g).1 hx⟩
  · rcases List.mem_append.mp z with z | z
    · exact n3 q hq q z rfl
    · rcases List.mem_append.mp z with z | z
      · exact ap2 q ((own_e q).mpr (.inl hq)) z
      · exact old q ((own_e q).mpr (.inl hq)) z
  · obtain ⟨x, h1, h2⟩ := gown_in hq
    rcases hr x h1 with z | z
    · exact List.mem_append_left _ (gown_of z h2)
    · exact List.mem_append_right _ (List.mem_append_right _ (S.gp q (gown_of z h2)))
  · exact GOk.all fun x hx => (GOk.memb (GOk.mono (hide_sub hsub) (fun _ _ => rfl) Gp) (List.mem_append_left _ hx))
  · exact GOk.all fun x hx => (GOk.memb (GOk.mono (hide_sub hsub) (fun _ _ => rfl) (GOk.all fun y hy => (inr' y hy).ok S)) hx)
  · obtain ⟨S', sub⟩ := back nw g
    refine k1 s v g' H' S' ?_ ho
    cases s with
    | da d => exact Rp.mono (hide_sub sub) ro
    | rf a => exact ro
    | nl _ => exact ro
    | nd _ => exact ro
end
end Tp

namespace Tp
open PySem L2
/-! ### calls over objects -/
/-- the def called x, called with n values and the keywords ks; gI: what its parameters get -/
def CalM (P : Program) (w : World) (T : List Addr) (K : PySem.W.Frag) (mg : Str → Option Value) (base : Heap) (x : Str) (k : Nat) (c : CtM) (n : Nat) (ks : List Str) (gI : List It → List It → List It) : Prop :=
  ∃ f fd ps g gV, FnOk P w K mg base (L2.CX P w) k f fd ps (spM T K c) ∧ mg x = some (.ref f) ∧ PySem.W.keepIn K (.ref f) = true ∧ KBn K fd ps n ks g gV ∧ ∀ (Hh : Hp) (vs zs : List V) (its iks : List It), its.length = n → iks.length = ks.length → ItA K Hh vs its → ItA K Hh zs iks → ItA K Hh (gV vs zs) (gI its iks)
def MthM (P : Program) (w : World) (T : List Addr) (K : PySem.W.Frag) (mg : Str → Option Value) (base : Heap) (C : Addr) (m : Str) (k : Nat) (c : CtM) : Prop :=
  ∃ f fd ps, FnOk P w K mg base (L2.CX P w) k f fd ps (spM T K c) ∧ Meth K C m f ∧ Binds K fd ps []
def PrpM (P : Program) (w : World) (T : List Addr) (K : PySem.W.Frag) (mg : Str → Option Value) (base : Heap) (C : Addr) (m : Str) (k : Nat) (c : CtM) : Prop :=
  ∃ pr f fd ps, FnOk P w K mg base (L2.CX P w) k f fd ps (spM T K c) ∧ PropOf K C m pr f ∧ Binds K fd ps []
def MakM (P : Program) (w : World) (T : List Addr) (K : PySem.W.Frag) (mg : Str → Option Value) (base : Heap) (x : Str) (C : Addr) (k : Nat) (c : CtM) (n : Nat) (ks : List Str) (gI : List It → List It → List It) : Prop :=
  ∃ f fd ps g gV, FnOk P w K mg base (L2.CX P w) k f fd ps (spM T K c) ∧ Mk K C f ∧ mg x = some (.ref C) ∧ KBn K fd ps (n + 1) ks g gV ∧ ∀ (Hh : Hp) (vs zs : List V) (its iks : List It), its.length = n + 1 → iks.length = ks.length → ItA K Hh vs its → ItA K Hh zs iks → ItA K Hh (gV vs zs) (gI its iks)
/-- C(.., k = v, ..), exceptions by the slots -/
def tMakeNS (C : Addr) (n m : Nat) (sp : Sp) (gV : List V → List V → List V) (E : St → XK) (t tk : TA) : TE := fun σ H Q => t σ H fun vs H1 => tk σ H1 fun zs H2 => vs.length = n ∧ zs.length = m ∧ ∀ x dx, H2 x = none → H2 dx = none → dx ≠ x →
  sp (gV (.ref x :: vs) zs) (upd (upd H2 dx (.own x)) x (.ins C dx [])) (fun v H3 => v = .non ∧ Q (.ref x) H3) (E σ)
section
variable {X : Cx} {CX : CXT} {k n : Nat} {f C : Addr} {fd : FuncData} {ps ks : List Str} {sp : Sp} {E : St → XK} {x : Str} {p pos : Pos} {e : Expr} {es : List Expr} {kws : List Keyword} {t tk : TA} {g : List Value → List Value → List Value} {gV : List V → List V → List V}
theorem run_makeNS {pins : List (Addr × Obj)} {σ : St} {H : Hp} {s : Shared} {Q : VK} {us ws : List Value} {vs zs : List V} (M : Mk X.K C f) (F : FnOk X.prog X.w X.K X.mg X.base CX k f fd ps sp) (hr : Room (k + 1) X.A) (hb : KBn X.K fd ps (n + 1) ks g gV) (hx : PassesAt CX X σ (E σ))
    (I : Inv X pins σ H s) (r : Vals vs us) (rz : Vals zs ws) (l1 : vs.length = n) (l2 : zs.length = ks.length)
    (h : ∀ x dx, H x = none → H dx = none → dx ≠ x → sp (gV (.ref x :: vs) zs) (upd (upd H dx (.own x)) x (.ins C dx [])) (fun v H2 => v = .non ∧ Q (.ref x) H2) (E σ)) :
    wpAny (model X.prog X.w) X.A (call (.ref C) us (ks.zip ws)) (EP X pins σ Q) X.xe s := by
  have hq := h (s.heap.objs.size + 1) s.heap.objs.size (I.hok.fresh (Nat.le_succ _)) (I.hok.fresh (Nat.le_refl _)) (Nat.ne_of_lt (Nat.lt_succ_self _))
  have I2 := Inv.made (C := C) I
  have r1 : Vals (V.ref (s.heap.objs.size + 1) :: vs) (Value.ref (s.heap.objs.size + 1) :: us) := .cons rfl r
  have r2 := hb.rel r1 rz
  have n1 : (Value.ref (s.heap.objs.size + 1) :: us).length = n + 1 := by
    rw [List.length_cons, ← r.length, l1]
  refine wpAny_call (make_map (f := f) I.kIn M.makes M.init (beq_iff_eq.mp M.fn) (codeAny_mono (F.run _ X.stack _ _ ⟨Value.ref (s.heap.objs.size + 1) :: us, ks.zip ws⟩ (g (Value.ref (s.heap.objs.size + 1) :: us) ws) _ _ (E σ) (hr.make C us (ks.zip ws))
    (I2.env0.make C us (ks.zip ws)) (hb.to _ (Value.ref (s.heap.objs.size + 1) :: us) ws I2.kIn n1 (rz.length.symm.trans l2)) r2 hq) fun r s' hq' => ?_))
  cases r with
  | error e => exact hx pins _ _ e s' I2 hq'
  | ok fl =>
    cases fl with
    | ret u =>
      obtain ⟨v, H', I3, rv, ev, q3⟩ := I2.after hq'
      subst ev
      exact ⟨rv, ⟨V.ref (s.heap.objs.size + 1), H', I3, rfl, q3⟩⟩
    | next => exact False.elim hq'
    | brk => exact False.elim hq'
    | cont => exact False.elim hq'
theorem pe_makeNS0 (M : Mk X.K C f) (F : FnOk X.prog X.w X.K X.mg X.base CX k f fd ps sp) (hr : Room (k + 1) X.A) (hg : Gl X x) (hm : X.mg x = some (.ref C)) (hb : KBn X.K fd ps 1 ks g gV) (hx : ∀ σ, PassesAt CX X σ (E σ)) (hkw : PK X kws tk)
    (hall : (backToKw pos (keywordEach kws X.env)).all (·.1.isSome) = true := by rfl) (hks : (backToKw pos (keywordEach kws X.env)).filterMap (·.1) = ks := by rfl) (hdb : (x == ("__debug__" : Str)) = false := by decide)
    (hpl : ((backTo pos (starEach [] X.env)).any (·.1) || (backToKw pos (keywordEach kws X.env)).any (·.1.isNone)) = false := by rfl) :
    PE X (.Call (.Name x p) [] kws pos) (tMakeNS C 0 ks.length sp gV E tNil tk) := by
  refine ⟨fun pins s σ H Q I h => ?_⟩
  refine wpAny_Call_Name_kw (ld_glob I hg hm ?_ hdb)
  refine PySem.W.callWith_KW0 (h₀ := X.base) I.ok.mod.kin M.kp hall ?_ hpl
  refine thn (hkw.run pos pins s σ H _ I h) fun ws s2 ⟨zs, H2, I2, rz, l1, l2, q2⟩ => ⟨I2.kIn, ?_⟩
  rw [hks]
  exact run_makeNS (us := []) (vs := []) M F hr hb (hx σ) I2 .nil rz rfl l2 q2
theorem pe_makeNS (M : Mk X.K C f) (F : FnOk X.prog X.w X.K X.mg X.base CX k f fd ps sp) (hr : Room (k + 1) X.A) (hg : Gl X x) (hm : X.mg x = some (.ref C)) (hb : KBn X.K fd ps (n + 1) ks g gV) (hx : ∀ σ, PassesAt CX X σ (E σ)) (ha : PA X (e :: es) t) (hkw : PK X kws tk)
    (hall : (backToKw pos (keywordEach kws X.env)).all (·.1.isSome) = true := by rfl) (hks : (backToKw pos (keywordEach kws X.env)).filterMap (·.1) = ks := by rfl) (hdb : (x == ("__debug__" : Str)) = false := by decide)
    (he : starEach (e :: es) X.env = (false, eval e X.env) :: starEach es X.env := by rfl) (hpl : ((backTo pos (starEach (e :: es) X.env)).any (·.1) || (backToKw pos (keywordEach kws X.env)).any (·.1.isNone)) = false := by rfl) :
    PE X (.Call (.Name x p) (e :: es) kws pos) (tMakeNS C n ks.length sp gV E t tk) := by
  refine ⟨fun pins s σ H Q I h => ?_⟩
  refine wpAny_Call_Name_kw (ld_glob I hg hm ?_ hdb)
  refine PySem.W.callWith_KW (h₀ := X.base) I.ok.mod.kin M.kp hall (thn (ha.run pos pins s σ H _ I h) fun us s1 ⟨vs, H1, I1, r, q⟩ => ?_) hpl he
  refine thn (hkw.run pos pins s1 σ H1 _ I1 q) fun ws s2 ⟨zs, H2, I2, rz, l1, l2, q2⟩ => ⟨I2.kIn, ?_⟩
  rw [hks]
  exact run_makeNS M F hr hb (hx σ) I2 r rz l1 l2 q2
end
section
variable {X : Cx} {B : Bx} {W : WX} {P : Po} {r q : List Sl} {e a b o tg : Expr} {es : List Expr} {kws : List Keyword} {rest body orelse : List Stmt} {d : D} {ds : List D} {pos pos' p1 apos : Pos} {k kk n : Nat} {x f m : Str} {ks : List Str} {gl g1 g2 gr : List (Addr × Nd)} {p C dx l : Addr} {fs : List (Str × It)} {t : It} {its iks : List It} {c : CtM} {Po : Rs → Prop} {Po2 Po3 : Rs → List (Addr × Nd) → Prop} {Ex : Addr → Prop} {Ex2 Ex3 : Addr → List (Addr × Nd) → Prop} {gI : List It → List It → List It}
theorem rsO_ok {K : PySem.W.Frag} {H1 H' : Hp} {ps : List Addr} {v : V} {s : Rs} (h : RsO K (hide H' ps) v s) : RsOk K ⟨H1, ps, [], []⟩ H' v s := by
  cases s with
  | da d => exact h
  | rf a => exact h
  | nl _ => exact h.elim
  | nd _ => exact h.elim
/-! reading calls -/
theorem ecCallM (g : Go X W kk) (M : CalM X.prog X.w B.ts X.K X.mg X.base x k c n ks gI) (hk : k ≤ kk) (ha : EAi X B (e :: es) r its) (hkw : EKi X B kws r iks) (hr : ∀ x ∈ gr, InG B r x) (hc : c (gI its iks) gr [] (fun s _ => Po s) (fun C _ => Ex C)) (hn : its.length = n := by rfl) (hn2 : iks.length = ks.length := by rfl)
    (hg : Gl X x := by rfl) (hall : (backToKw pos (keywordEach kws X.env)).all (·.1.isSome) = true := by rfl) (hks : (backToKw pos (keywordEach kws X.env)).filterMap (·.1) = ks := by rfl)
    (hdb : (x == ("__debug__" : Str)) = false := by decide) (he : starEach (e :: es) X.env = (false, eval e X.env) :: starEach es X.env := by rfl)
    (hpl : ((backTo pos (starEach (e :: es) X.env)).any (·.1) || (backToKw pos (keywordEach kws X.env)).any (·.1.isNone)) = false := by rfl) : EC X B W (.Call (.Name x p1) (e :: es) kws pos) r Po Ex := by
  obtain ⟨f, fd, ps, gg, gV, F, hm, hkp, hb, hI⟩ := M
  obtain ⟨ta, pa, ka⟩ := ha
  obtain ⟨tk, pk, kk'⟩ := hkw
  refine ⟨_, pe_callNS F (g.hr.mono hk) hg hm hkp hb (fun σ => passAt g.tk σ) pa pk hall hks hdb he hpl, fun H σ S Q q qx => ka H σ S _ fun vs H1 s1 y => kk' H1 σ (S.mono s1) _ fun zs H2 s2 y2 => ?_⟩
  have S2 := (S.mono s1).mono s2
  exact ⟨y.len.trans hn, y2.len.trans hn2, spM_read S2 hr (hI _ _ _ _ _ hn hn2 (y.mono (hide_mono s2)) y2) hc (fun s v g' H' z ro ho => q s v H2 H' (s1.trans s2) z (rsO_ok ro) ho) fun C g' H' z hx => qx C H' ((s1.trans s2).trans z) hx⟩
theorem ecMethM {pl : Sem Bool} (g : Go X W kk) (ho : ER X B o r p) (hG : InG B r (p, .ob C dx fs)) (cl : Cls X.K C) (M : MthM X.prog X.w B.ts X.K X.mg X.base C m k c) (hk : k ≤ kk) (hl : fs.lookup m = none) (ha : EAi X B (e :: es) r its) (hr : ∀ x ∈ gr, InG B r x) (hc : c (.rf p :: its) gr [] (fun s _ => Po s) (fun C _ => Ex C))
    (hst : starEach (e :: es) X.env = (false, eval e X.env) :: starEach es X.env := by rfl) (hpl : (backTo pos (starEach es X.env)).any (·.1) = false := by rfl)
    (ht : eval (.Call (.Attribute o m apos) (e :: es) [] pos) X.env = (do
      let ov ← eval o X.env
      standAt apos.atName
      let (f, first) ← holding [ov] (getMethod ov m pl)
      callWith pos f first (backTo pos (starEach (e :: es) X.env)) (backToKw pos (keywordEach [] X.env))) := by rfl) : EC X B W (.Call (.Attribute o m apos) (e :: es) [] pos) r Po Ex := by
  obtain ⟨f, fd, ps, F, hm, hb⟩ := M
  obtain ⟨te, pp, kt⟩ := ho
  obtain ⟨ta, pa, ka⟩ := ha
  refine ⟨_, pe_methX pp cl hm F (g.hr.mono hk) hb (fun σ => passAt g.tk σ) pa hst hpl ht, fun H σ S Q q qx => kt H σ S _ fun H1 s1 => ?_⟩
  obtain ⟨vs, e1, e2, z⟩ := hG.ok (S.mono s1)
  refine ⟨p, dx, vs, rfl, e1, z.none hl, ka H1 σ (S.mono s1) _ fun ws H2 s2 y => ?_⟩
  exact spM_read ((S.mono s1).mono s2) hr (.cons (i := .rf p) rfl y) hc (fun s v g' H' z ro ho => q s v H2 H' (s1.trans s2) z (rsO_ok ro) ho) fun C g' H' z hx => qx C H' ((s1.trans s2).trans z) hx
theorem ecMethM0 {pl : Sem Bool} (g : Go X W kk) (ho : ER X B o r p) (hG : InG B r (p, .ob C dx fs)) (cl : Cls X.K C) (M : MthM X.prog X.w B.ts X.K X.mg X.base C m k c) (hk : k ≤ kk) (hl : fs.lookup m = none) (hr : ∀ x ∈ gr, InG B r x) (hc : c [.rf p] gr [] (fun s _ => Po s) (fun C _ => Ex C))
    (ht : eval (.Call (.Attribute o m apos) [] [] pos) X.env = (do
      let ov ← eval o X.env
      standAt apos.atName
      let (f, first) ← holding [ov] (getMethod ov m pl)
      callWith pos f first (backTo pos (starEach [] X.env)) (backToKw pos (keywordEach [] X.env))) := by rfl) : EC X B W (.Call (.Attribute o m apos) [] [] pos) r Po Ex := by
  obtain ⟨f, fd, ps, F, hm, hb⟩ := M
  obtain ⟨te, pp, kt⟩ := ho
  refine ⟨_, pe_methX0 pp cl hm F (g.hr.mono hk) hb (fun σ => passAt g.tk σ) ht, fun H σ S Q q qx => kt H σ S _ fun H1 s1 => ?_⟩
  obtain ⟨vs, e1, e2, z⟩ := hG.ok (S.mono s1)
  refine ⟨p, dx, vs, rfl, e1, z.none hl, ?_⟩
  exact spM_read (S.mono s1) hr (.cons (i := .rf p) rfl .nil) hc (fun s v g' H' z ro ho => q s v H1 H' s1 z (rsO_ok ro) ho) fun C g' H' z hx => qx C H' (s1.trans z) hx
theorem ecPropM (g : Go X W kk) (ho : ER X B o r p) (hG : InG B r (p, .ob C dx fs)) (cl : Cls X.K C) (M : PrpM X.prog X.w B.ts X.K X.mg X.base C m k c) (hk : k + 1 ≤ kk) (hr : ∀ x ∈ gr, InG B r x) (hc : c [.rf p] gr [] (fun s _ => Po s) (fun _ _ => False)) (hab : attributeBase o m X.env (eval o X.env) = eval o X.env := by rfl) : EC X B W (.Attribute o m pos) r Po (fun _ => False) := by
  obtain ⟨pr, f, fd, ps, F, hm, hb⟩ := M
  obtain ⟨te, pp, kt⟩ := ho
  refine ⟨_, pe_prop (E := fun _ _ _ => False) pp cl hm F (g.hr.mono hk) hb .nil passL hab, fun H σ S Q q qx => kt H σ S _ fun H1 s1 => ?_⟩
  obtain ⟨vs, e1, e2, z⟩ := hG.ok (S.mono s1)
  refine ⟨p, dx, vs, rfl, e1, ?_⟩
  exact spM_read (S.mono s1) hr (.cons (i := .rf p) rfl .nil) hc (fun s v g' H' z ro ho => q s v H1 H' s1 z (rsO_ok ro) ho) fun _ _ _ _ hx => hx.elim
/-! calls that turn ghosts, or make some -/
theorem eoCallM (iG : Nat) (g : Go X W kk) (M : CalM X.prog X.w B.ts X.K X.mg X.base x k c n ks gI) (hk : k ≤ kk) (hG : r[iG]? = some (.gs gl)) (hp : gl.Perm (g1 ++ g2)) (ha : EAi X B (e :: es) r its) (hkw : EKi X B kws r iks) (hr : ∀ x ∈ gr, x ∈ g2 ∨ x ∈ B.gr) (hc : c (gI its iks) gr g1 Po2 Ex2)
    (h1 : ∀ s g', Po2 s g' → Po3 s (g' ++ g2)) (h2 : ∀ C g', Ex2 C g' → Ex3 C (g' ++ g2)) (hn : its.length = n := by rfl) (hn2 : iks.length = ks.length := by rfl)
    (hg : Gl X x := by rfl) (hall : (backToKw pos (keywordEach kws X.env)).all (·.1.isSome) = true := by rfl) (hks : (backToKw pos (keywordEach kws X.env)).filterMap (·.1) = ks := by rfl)
    (hdb : (x == ("__debug__" : Str)) = false := by decide) (he : starEach (e :: es) X.env = (false, eval e X.env) :: starEach es X.env := by rfl)
    (hpl : ((backTo pos (starEach (e :: es) X.env)).any (·.1) || (backToKw pos (keywordEach kws X.env)).any (·.1.isNone)) = false := by rfl) : EOb X B W iG (.Call (.Name x p1) (e :: es) kws pos) r Po3 Ex3 := by
  obtain ⟨f, fd, ps, gg, gV, F, hm, hkp, hb, hI⟩ := M
  obtain ⟨ta, pa, ka⟩ := ha
  obtain ⟨tk, pk, kk'⟩ := hkw
  refine ⟨_, pe_callNS F (g.hr.mono hk) hg hm hkp hb (fun σ => passAt g.tk σ) pa pk hall hks hdb he hpl, fun H σ S Q q qx => ka H σ S _ fun vs H1 s1 y => kk' H1 σ (S.mono s1) _ fun zs H2 s2 y2 => ?_⟩
  have S2 := (S.mono s1).mono s2
  exact ⟨y.len.trans hn, y2.len.trans hn2, spM_own S2 hG hp hr (hI _ _ _ _ _ hn hn2 (y.mono (hide_mono s2)) y2) hc (fun s v g' H' S' ro ho => q s v _ H' S' ro (h1 s g' ho)) fun C g' H' S' hx => qx C _ H' S' (h2 C g' hx)⟩
theorem eoMethM (iG : Nat) {pl : Sem Bool} (g : Go X W kk) (ho : ER X B o r p) (hI : InG B r (p, .ob C dx fs)) (cl : Cls X.K C) (M : MthM X.prog X.w B.ts X.K X.mg X.base C m k c) (hk : k ≤ kk) (hl : fs.lookup m = none) (hG : r[iG]? = some (.gs gl)) (hp : gl.Perm (g1 ++ g2)) (ha : EAi X B (e :: es) r its) (hr : ∀ x ∈ gr, x ∈ g2 ∨ x ∈ B.gr) (hc : c (.rf p :: its) gr g1 Po2 Ex2)
    (h1 : ∀ s g', Po2 s g' → Po3 s (g' ++ g2)) (h2 : ∀ C g', Ex2 C g' → Ex3 C (g' ++ g2))
    (hst : starEach (e :: es) X.env = (false, eval e X.env) :: starEach es X.env := by rfl) (hpl : (backTo pos (starEach es X.env)).any (·.1) = false := by rfl)
    (ht : eval (.Call (.Attribute o m apos) (e :: es) [] pos) X.env = (do
      let ov ← eval o X.env
      standAt apos.atName
      let (f, first) ← holding [ov] (getMethod ov m pl)
      callWith pos f first (backTo pos (starEach (e :: es) X.env)) (backToKw pos (keywordEach [] X.env))) := by rfl) : EOb X B W iG (.Call (.Attribute o m apos) (e :: es) [] pos) r Po3 Ex3 := by
  obtain ⟨f, fd, ps, F, hm, hb⟩ := M
  obtain ⟨te, pp, kt⟩ := ho
  obtain ⟨ta, pa, ka⟩ := ha
  refine ⟨_, pe_methX pp cl hm F (g.hr.mono hk) hb (fun σ => passAt g.tk σ) pa hst hpl ht, fun H σ S Q q qx => kt H σ S _ fun H1 s1 => ?_⟩
  obtain ⟨vs, e1, e2, z⟩ := hI.ok (S.mono s1)
  refine ⟨p, dx, vs, rfl, e1, z.none hl, ka H1 σ (S.mono s1) _ fun ws H2 s2 y => ?_⟩
  exact spM_own ((S.mono s1).mono s2) hG hp hr (.cons (i := .rf p) rfl y) hc (fun s v g' H' S' ro ho => q s v _ H' S' ro (h1 s g' ho)) fun C g' H' S' hx => qx C _ H' S' (h2 C g' hx)
theorem eoMethM0 (iG : Nat) {pl : Sem Bool} (g : Go X W kk) (ho : ER X B o r p) (hI : InG B r (p, .ob C dx fs)) (cl : Cls X.K C) (M : MthM X.prog X.w B.ts X.K X.mg X.base C m k c) (hk : k ≤ kk) (hl : fs.lookup m = none) (hG : r[iG]? = some (.gs gl)) (hp : gl.Perm (g1 ++ g2)) (hr : ∀ x ∈ gr, x ∈ g2 ∨ x ∈ B.gr) (hc : c [.rf p] gr g1 Po2 Ex2)
    (h1 : ∀ s g', Po2 s g' → Po3 s (g' ++ g2)) (h2 : ∀ C g', Ex2 C g' → Ex3 C (g' ++ g2))
    (ht : eval (.Call (.Attribute o m apos) [] [] pos) X.env = (do
      let ov ← eval o X.env
      standAt apos.atName
      let (f, first) ← holding [ov] (getMethod ov m pl)
      callWith pos f first (backTo pos (starEach [] X.env)) (backToKw pos (keywordEach [] X.env))) := by rfl) : EOb X B W iG (.Call (.Attribute o m apos) [] [] pos) r Po3 Ex3 := by
  obtain ⟨f, fd, ps, F, hm, hb⟩ := M
  obtain ⟨te, pp, kt⟩ := ho
  refine ⟨_, pe_methX0 pp cl hm F (g.hr.mono hk) hb (fun σ => passAt g.tk σ) ht, fun H σ S Q q qx => kt H σ S _ fun H1 s1 => ?_⟩
  obtain ⟨vs, e1, e2, z⟩ := hI.ok (S.mono s1)
  refine ⟨p, dx, vs, rfl, e1, z.none hl, ?_⟩
  exact spM_own (S.mono s1) hG hp hr (.cons (i := .rf p) rfl .nil) hc (fun s v g' H' S' ro ho => q s v _ H' S' ro (h1 s g' ho)) fun C g' H' S' hx => qx C _ H' S' (h2 C g' hx)
/-- a new instance among the ghosts -/
theorem SOk.born {iG : Nat} {H : Hp} {σ : St} {a : Addr} (S : SOk X.K B r H σ) (hG : r[iG]? = some (.gs gl)) (na : H a = none) (nd : H dx = none) (ne : dx ≠ a) :
    SOk X.K B (r.set iG (.gs ((a, .ob C dx []) :: gl))) (upd (upd H dx (.own a)) a (.ins C dx [])) σ ∧ Same (hid B r H) (hid B (r.set iG (.gs ((a, .ob C dx []) :: gl))) (upd (upd H dx (.own a)) a (.ins C dx []))) := by
  obtain ⟨G, gnd⟩ := S.ghosts hG
  have there : ∀ q ∈ gown gl, ∃ u, H q = some u ∧ NT u := fun q hq => GOk.there G hq
  have sm : Same H (upd (upd H dx (.own a)) a (.ins C dx [])) := (same_new nd).trans (same_new (by rw [upd_ne (Ne.symm ne)]; exact na))
  refine ⟨S.gset hG (fun q o eq _ => sm q o eq) ?_ ?_ fun hh => ?_, fun q u eq => ?_⟩
  · show (a :: dx :: gown gl).Nodup
    refine List.nodup_cons.mpr ⟨fun z => ?_, List.nodup_cons.mpr ⟨fun z => ?_, gnd⟩⟩
    · rcases List.mem_cons.mp z with z | z
      · exact ne z.symm
      · obtain ⟨u, eu, nt⟩ := there a z; rw [na] at eu; cases eu
    · obtain ⟨u, eu, nt⟩ := there dx z; rw [nd] at eu; cases eu
  · intro q hq
    rcases List.mem_cons.mp hq with z | z
    · exact .inr (z ▸ na)
    · rcases List.mem_cons.mp z with z | z
      · exact .inr (z ▸ nd)
      · exact .inl z
  · refine ⟨⟨[], upd_same, by rw [upd_ne ne, upd_same], .nil⟩, GOk.mono hh (fun q hq => ?_) G⟩
    obtain ⟨u, eu, nt⟩ := there q hq
    rw [eu]; exact sm.k eu nt
  · have eq : hide H (own r ++ B.ps) q = some u := eq
    by_cases hq : q ∈ own r ++ B.ps
    · rw [hide_in hq] at eq; cases eq
    · rw [hide_out hq] at eq
      show Ext1 u (hide _ (own (r.set iG (.gs ((a, .ob C dx []) :: gl))) ++ B.ps) q)
      rw [hide_out fun z => ?_]
      · exact sm q u eq
      · rcases List.mem_append.mp z with z | z
        · rcases own_set_mem z with z | z
          · rcases List.mem_cons.mp z with z | z
            · rw [z, na] at eq; cases eq
            · rcases List.mem_cons.mp z with z | z
              · rw [z, nd] at eq; cases eq
              · exact hq (List.mem_append_left _ (mem_own hG z))
          · exact hq (List.mem_append_left _ z)
        · exact hq (List.mem_append_right _ z)
theorem eoMakeM_run {iG : Nat} {H : Hp} {σ : St} {vs : List V} {Q : VK} {a : Addr} {E : XK} (S : SOk X.K B r H σ) (hG : r[iG]? = some (.gs gl)) (hp : gl.Perm (g1 ++ g2)) (hr : ∀ x ∈ gr, x ∈ g2 ∨ x ∈ B.gr) (na : H a = none) (nd : H dx = none) (ne : dx ≠ a)
    (A : ∀ Hh, Same (hid B r H) Hh → ItA X.K Hh vs its) (hc : c its gr ((a, .ob C dx []) :: g1) (fun s gl' => s = .da .none ∧ Po2 (.rf a) gl') Ex2)
    (k1 : ∀ v g' H', SOk X.K B (r.set iG (.gs (g' ++ g2))) H' σ → Po2 (.rf a) g' → v = .non → Q v H') (k2 : ∀ C g' H', SOk X.K B (r.set iG (.gs (g' ++ g2))) H' σ → Ex2 C g' → E (.ref C) none H') : spM B.ts X.K c vs (upd (upd H dx (.own a)) a (.ins C dx [])) Q E := by
  obtain ⟨S2, hh⟩ := S.born (C := C) hG na nd ne
  have hG2 := get_set (s' := .gs ((a, .ob C dx []) :: gl)) hG
  refine spM_own S2 hG2 (g1 := (a, .ob C dx []) :: g1) (hp.cons _) hr (A _ hh) hc (fun s v g' H' S3 ro ho => ?_) fun C g' H' S3 hx => ?_
  · obtain ⟨hs, ho⟩ := ho
    subst hs
    cases ro
    rw [set_set] at S3
    exact k1 _ g' H' S3 ho rfl
  · rw [set_set] at S3
    exact k2 C g' H' S3 hx
theorem eoMakeM (iG : Nat) (g : Go X W kk) (M : MakM X.prog X.w B.ts X.K X.mg X.base x C k c n ks gI) (hk : k + 1 ≤ kk) (hG : r[iG]? = some (.gs gl)) (hp : gl.Perm (g1 ++ g2)) (ha : EAi X B (e :: es) r its) (hkw : EKi X B kws r iks) (hr : ∀ x ∈ gr, x ∈ g2 ∨ x ∈ B.gr) (hc : ∀ p dx, c (gI (.rf p :: its) iks) gr ((p, .ob C dx []) :: g1) (fun s gl' => s = .da .none ∧ Po2 (.rf p) gl') Ex2)
    (h1 : ∀ s g', Po2 s g' → Po3 s (g' ++ g2)) (h2 : ∀ C g', Ex2 C g' → Ex3 C (g' ++ g2)) (hn : its.length = n := by rfl) (hn2 : iks.length = ks.length := by rfl)
    (hg : Gl X x := by rfl) (hall : (backToKw pos (keywordEach kws X.env)).all (·.1.isSome) = true := by rfl) (hks : (backToKw pos (keywordEach kws X.env)).filterMap (·.1) = ks := by rfl)
    (hdb : (x == ("__debug__" : Str)) = false := by decide) (he : starEach (e :: es) X.env = (false, eval e X.env) :: starEach es X.env := by rfl)
    (hpl : ((backTo pos (starEach (e :: es) X.env)).any (·.1) || (backToKw pos (keywordEach kws X.env)).any (·.1.isNone)) = false := by rfl) : EOb X B W iG (.Call (.Name x p1) (e :: es) kws pos) r Po3 Ex3 := by
  obtain ⟨f, fd, ps, gg, gV, F, hm, hx, hb, hI⟩ := M
  obtain ⟨ta, pa, ka⟩ := ha
  obtain ⟨tk, pk, kk'⟩ := hkw
  refine ⟨_, pe_makeNS hm F (g.hr.mono hk) hg hx hb (fun σ => passAt g.tk σ) pa pk hall hks hdb he hpl, fun H σ S Q q qx => ka H σ S _ fun vs H1 s1 y => kk' H1 σ (S.mono s1) _ fun zs H2 s2 y2 => ⟨y.len.trans hn, y2.len.trans hn2, fun p dx na nd ne => ?_⟩⟩
  exact eoMakeM_run ((S.mono s1).mono s2) hG hp hr na nd ne (fun Hh hh => hI _ _ _ (.rf p :: its) _ (congrArg (· + 1) hn) hn2 (.cons rfl ((y.mono (hide_mono s2)).mono hh)) (y2.mono hh)) (hc p dx) (fun v g' H' S' ho e => ⟨e, q (.rf p) _ _ H' S' rfl (h1 _ g' ho)⟩) fun C g' H' S' hx => qx C _ H' S' (h2 C g' hx)
theorem eoMakeM0 (iG : Nat) (g : Go X W kk) (M : MakM X.prog X.w B.ts X.K X.mg X.base x C k c 0 ks gI) (hk : k + 1 ≤ kk) (hG : r[iG]? = some (.gs gl)) (hp : gl.Perm (g1 ++ g2)) (hkw : EKi X B kws r iks) (hr : ∀ x ∈ gr, x ∈ g2 ∨ x ∈ B.gr) (hc : ∀ p dx, c (gI [.rf p] iks) gr ((p, .ob C dx []) :: g1) (fun s gl' => s = .da .none ∧ Po2 (.rf p) gl') Ex2)
    (h1 : ∀ s g', Po2 s g' → Po3 s (g' ++ g2)) (h2 : ∀ C g', Ex2 C g' → Ex3 C (g' ++ g2)) (hn2 : iks.length = ks.length := by rfl)
    (hg : Gl X x := by rfl) (hall : (backToKw pos (keywordEach kws X.env)).all (·.1.isSome) = true := by rfl) (hks : (backToKw pos (keywordEach kws X.env)).filterMap (·.1) = ks := by rfl)
    (hdb : (x == ("__debug__" : Str)) = false := by decide)
    (hpl : ((backTo pos (starEach [] X.env)).any (·.1) || (backToKw pos (keywordEach kws X.env)).any (·.1.isNone)) = false := by rfl) : EOb X B W iG (.Call (.Name x p1) [] kws pos) r Po3 Ex3 := by
  obtain ⟨f, fd, ps, gg, gV, F, hm, hx, hb, hI⟩ := M
  obtain ⟨tk, pk, kk'⟩ := hkw
  refine ⟨_, pe_makeNS0 hm F (g.hr.mono hk) hg hx hb (fun σ => passAt g.tk σ) pk hall hks hdb hpl, fun H σ S Q q qx => kk' H σ S _ fun zs H2 s2 y2 => ⟨rfl, y2.len.trans hn2, fun p dx na nd ne => ?_⟩⟩
  exact eoMakeM_run (S.mono s2) hG hp hr na nd ne (fun Hh hh => hI _ _ _ [.rf p] _ rfl hn2 (.cons rfl .nil) (y2.mono hh)) (hc p dx) (fun v g' H' S' ho e => ⟨e, q (.rf p) _ _ H' S' rfl (h1 _ g' ho)⟩) fun C g' H' S' hx => qx C _ H' S' (h2 C g' hx)
end
end Tp

namespace Tp
open PySem L2
/-! ### own ==, isinstance of an own class -/
structure ClsT (K : PySem.W.Frag) (C : Addr) : Prop where
  ha : PySem.W.findIn K (.ref C) "__class__" = some (some (.builtin "object.__class__"))
  hn : PySem.W.specialIn K (.builtin "object.__class__") "__get__" = some (some (.builtin "getset_descriptor.__get__"))
  htk : PySem.W.takesIn K (.builtin "object.__class__") = some true
  hm : PySem.W.mroIn K C (.type "object") = some true
def clsTB (K : PySem.W.Frag) (C : Addr) : Bool := He.eqO (PySem.W.findIn K (.ref C) "__class__") (some (some (.builtin "object.__class__"))) &&
  (He.eqO (PySem.W.specialIn K (.builtin "object.__class__") "__get__") (some (some (.builtin "getset_descriptor.__get__"))) && (decide (PySem.W.takesIn K (.builtin "object.__class__") = some true) && decide (PySem.W.mroIn K C (.type "object") = some true)))
theorem clsTB_ok {K : PySem.W.Frag} {C : Addr} (h : clsTB K C = true) : ClsT K C := by
  obtain ⟨h1, h⟩ := He.ba h
  obtain ⟨h2, h⟩ := He.ba h
  obtain ⟨h3, h4⟩ := He.ba h
  exact ⟨He.eqO_ok h1, He.eqO_ok h2, of_decide_eq_true h3, of_decide_eq_true h4⟩
/-- an own class against a built-in one -/
def frnB (K : PySem.W.Frag) (C : Addr) (t : String) : Bool := decide (PySem.W.notFirst K C (.type t) = true) && decide (PySem.W.kitOne K (.type t) (.ref C) = some false)
section
variable {X : Cx} {CX : CXT} {n : Nat} {C f : Addr} {fd : FuncData} {ps : List Str} {sp : Sp} {E : St → XK}
def rOwn (K : PySem.W.Frag) (C : Addr) (sp : Sp) (E : XK) : R2 := fun x y H Q => ∃ a dx fs t, x = .ref a ∧ H a = some (.ins C dx fs) ∧ TyX K H y t ∧ PySem.W.notFirst K C t = true ∧ sp [x, y] H (fun v H' => ∃ b, v = .bl b ∧ Q v H') E
def tOwn (K : PySem.W.Frag) (C : Addr) (sp : Sp) (E : St → XK) (ta tb : TE) : TE := fun σ H Q => ta σ H fun x H1 => tb σ H1 fun y H2 => rOwn K C sp (E σ) x y H2 Q
theorem op_own {pins : List (Addr × Obj)} {s : Shared} {σ : St} {H : Hp} {x y : V} {v u : Value} {Q : VK} (F : FnOk X.prog X.w X.K X.mg X.base CX n f fd ps sp) (hm : Meth X.K C "__eq__" f) (hb : Binds X.K fd ps []) (hr : Room n X.A) (hx : PassesAt CX X σ (E σ)) (I : Inv X pins σ H s) (rx : RelV x v) (ry : RelV y u) (h : rOwn X.K C sp (E σ) x y H Q) :
    wpAny (model X.prog X.w) X.A (compareOp .Eq v u) (EP X pins σ Q) X.xe s := by
  obtain ⟨a, dx, fs, t, rfl, ea, ty, nf, q⟩ := h
  cases rx
  obtain ⟨P, Z, pz, _⟩ := kit_of I ry ty
  obtain ⟨mA, J, _⟩ := ins_get I.hok ea
  obtain ⟨od, J, _⟩ := J.look
  obtain ⟨m, hF⟩ := I.fr
  show wpAny (model X.prog X.w) X.A (richCompare .Eq (.ref a) u) (EP X pins σ Q) X.xe s
  refine PySem.W.cmp_K (op := .Eq) (tb := t) hr.units0 hF I.ok.mod.kin J (Z.ty _ _ I.kIn pz) nf hm.at_ hm.fn ?_
  refine wpAny_mono (run_fnS (us := [.ref a, u]) (vs := [.ref a, y]) F hr hb hx I (.cons rfl (.cons ry .nil)) q) (fun r s' z => ?_) fun _ _ z => z
  obtain ⟨w, H', I', rw', b, eb, hq⟩ := z
  subst eb
  cases rw'
  exact ⟨.bl b, H', I', rfl, hq⟩
variable {a b : Expr} {ta tb : TE} {pos : Pos}
theorem pe_own (F : FnOk X.prog X.w X.K X.mg X.base CX n f fd ps sp) (hm : Meth X.K C "__eq__" f) (hb : Binds X.K fd ps []) (hr : Room n X.A) (hx : ∀ σ, PassesAt CX X σ (E σ)) (pa : PE X a ta) (pb : PE X b tb) (hmk : behindInMarks .Eq b = false) : PE X (.Compare a [.Eq] [b] pos) (tOwn X.K C sp E ta tb) := by
  refine ⟨fun pins s σ H Q I h => ?_⟩
  exact wpAny_Compare1 (thn (pa.run pins s σ H _ I h) fun v s1 ⟨x, H1, I1, r1, q1⟩ => thn (pb.run pins s1 σ H1 _ I1 q1) fun u s2 ⟨y, H2, I2, r2, q2⟩ => op_own F hm hb hr (hx σ) I2 r1 r2 q2) hmk
end
section
variable {X : Cx} {B : Bx} {W : WX} {P : Po} {r q : List Sl} {e a b o tg : Expr} {es : List Expr} {kws : List Keyword} {rest body orelse : List Stmt} {d : D} {ds : List D} {pos pos' p1 p' apos : Pos} {k kk n : Nat} {x f m : Str} {ks : List Str} {gl gl' g1 g2 gr : List (Addr × Nd)} {p C dx C2 dx2 l : Addr} {fs fs2 : List (Str × It)} {t : It} {its iks : List It} {c : CtM} {z : Addr}
theorem evOwnEq {w : Bool} (g : Go X W kk) (M : MthM X.prog X.w B.ts X.K X.mg X.base C "__eq__" k c) (hk : k ≤ kk) (ha : ER X B a r p) (hI : InG B r (p, .ob C dx fs)) (hb : ER X B b r z) (hI2 : InG B r (z, .ob C dx2 fs2)) (cl : Cls X.K C) (ct : ClsT X.K C) (hr : ∀ x ∈ gr, InG B r x) (hc : c [.rf p, .rf z] gr [] (fun s _ => s = .da (.bool w)) (fun _ _ => False)) (hmk : behindInMarks .Eq b = false := by first | exact nomark _ | rfl) : EV X B (.Compare a [.Eq] [b] pos) r (.bool w) := by
  obtain ⟨f, fd, ps, F, hm, hb'⟩ := M
  obtain ⟨ta, pa, ka⟩ := ha
  obtain ⟨tb, pb, kb⟩ := hb
  refine ⟨_, pe_own F hm hb' (g.hr.mono hk) (fun σ => passAt g.tk σ) pa pb hmk, fun H σ S Q q => ka H σ S _ fun H1 s1 => kb H1 σ (S.mono s1) _ fun H2 s2 => ?_⟩
  have S2 := (S.mono s1).mono s2
  obtain ⟨vs, e1, e2, y⟩ := hI.ok S2
  obtain ⟨vs2, e3, e4, y2⟩ := hI2.ok S2
  refine ⟨p, dx, vs, .ref C, rfl, e1, .base (.ins e3 cl ct.ha ct.hn ct.htk ct.hm), by unfold PySem.W.notFirst; simp, ?_⟩
  refine spM_read S2 hr (.cons (i := .rf p) rfl (.cons (i := .rf z) rfl .nil)) hc (fun s v g' H' zz ro ho => ?_) fun _ _ _ _ hx => hx.elim
  subst ho
  cases ro
  exact ⟨w, rfl, q _ H' ((s1.trans s2).trans zz) (.bl w)⟩
theorem evOwnEqD {w : Bool} (g : Go X W kk) (M : MthM X.prog X.w B.ts X.K X.mg X.base C "__eq__" k c) (hk : k ≤ kk) (ha : ER X B a r p) (hI : InG B r (p, .ob C dx fs)) (hb : EV X B b r d) (hnf : frnB X.K C (tyN d) = true) (hr : ∀ x ∈ gr, InG B r x) (hc : c [.rf p, .da d] gr [] (fun s _ => s = .da (.bool w)) (fun _ _ => False)) (hmk : behindInMarks .Eq b = false := by first | exact nomark _ | rfl) : EV X B (.Compare a [.Eq] [b] pos) r (.bool w) := by
  obtain ⟨f, fd, ps, F, hm, hb'⟩ := M
  obtain ⟨ta, pa, ka⟩ := ha
  obtain ⟨tb, pb, kb⟩ := hb
  refine ⟨_, pe_own F hm hb' (g.hr.mono hk) (fun σ => passAt g.tk σ) pa pb hmk, fun H σ S Q q => ka H σ S _ fun H1 s1 => kb H1 σ (S.mono s1) _ fun y H2 s2 ry => ?_⟩
  have S2 := (S.mono s1).mono s2
  obtain ⟨vs, e1, e2, _⟩ := hI.ok S2
  refine ⟨p, dx, vs, .type (tyN d), rfl, e1, (ry.mono hide_same).ty, of_decide_eq_true (He.ba hnf).1, ?_⟩
  refine spM_read S2 hr (.cons (i := .rf p) rfl (.cons (i := .da d) ry .nil)) hc (fun s v g' H' zz ro ho => ?_) fun _ _ _ _ hx => hx.elim
  subst ho
  cases ro
  exact ⟨w, rfl, q _ H' ((s1.trans s2).trans zz) (.bl w)⟩
/-- isinstance(o, C), C an own class -/
theorem evIsO (he : ER X B e r p) (hI : InG B r (p, .ob C dx fs)) (cl : Cls X.K C) (ct : ClsT X.K C) (hC : X.mg x = some (.ref C)) (hm : X.mg "isinstance" = none) (hg : Gl X "isinstance" := by rfl) (hgT : Gl X x := by rfl) (hd : (x == ("__debug__" : Str)) = false := by decide) (hst : NSt X e := by exact fun _ => rfl) (hst2 : NSt X (.Name x p') := by exact fun _ => rfl) : EV X B (.Call (.Name "isinstance" p1) [e, .Name x p'] [] pos) r (.bool true) := by
  obtain ⟨te, pp, q⟩ := he
  exact ⟨_, pe_callB call_isi hg hm (by decide +kernel) (pa_cons pp (pa_cons (pe_glob (v := .ref C) hgT hC rfl hd) pa_nil (hst2 _)) (hst _)) (he := hst _) (hpl := by rw [hst2]; rfl), fun H σ S Q g => q H σ S _ fun H1 s1 => by
    obtain ⟨vs, e1, e2, _⟩ := hI.ok (S.mono s1)
    exact ⟨.ref p, .ref C, _, _, true, rfl, .own C, .base (.ins e1 cl ct.ha ct.hn ct.htk ct.hm), by unfold PySem.W.kitOne; simp, g _ H1 s1 (.bl true)⟩⟩
theorem evIsOD (he : EH X B e r d) (hnf : frnB X.K C (tyN d) = true) (hC : X.mg x = some (.ref C)) (hm : X.mg "isinstance" = none) (hg : Gl X "isinstance" := by rfl) (hgT : Gl X x := by rfl) (hd : (x == ("__debug__" : Str)) = false := by decide) (hst : NSt X e := by exact fun _ => rfl) (hst2 : NSt X (.Name x p') := by exact fun _ => rfl) : EV X B (.Call (.Name "isinstance" p1) [e, .Name x p'] [] pos) r (.bool false) := by
  obtain ⟨te, pp, q⟩ := he
  exact ⟨_, pe_callB call_isi hg hm (by decide +kernel) (pa_cons pp (pa_cons (pe_glob (v := .ref C) hgT hC rfl hd) pa_nil (hst2 _)) (hst _)) (he := hst _) (hpl := by rw [hst2]; rfl), fun H σ S Q g => q H σ S _ fun v H1 s1 y => ⟨v, .ref C, _, _, false, rfl, .own C, y.ty, of_decide_eq_true (He.ba hnf).2, g _ H1 s1 (.bl false)⟩⟩
/-! ### ghosts forgotten, ghosts from owned lists -/
theorem gown_subl : ∀ {a b : List (Addr × Nd)}, a.Sublist b → (gown a).Sublist (gown b)
  | _, _, .slnil => .slnil
  | _, _, .cons x h => by obtain ⟨y, n⟩ := x; rw [gown_cons]; exact (gown_subl h).trans (List.sublist_append_right _ _)
  | _, _, .cons_cons x h => by obtain ⟨y, n⟩ := x; rw [gown_cons, gown_cons]; exact List.Sublist.append (.refl _) (gown_subl h)
theorem sv_forgetG {sts : List Stmt} (iG : Nat) (hG : r[iG]? = some (.gs gl)) (hs : gl'.Sublist gl) (h : SV X B W sts (r.set iG (.gs gl')) P) : SV X B W sts r P := fun H σ E S kt => by
  obtain ⟨G, nd⟩ := S.ghosts hG
  exact h H σ E (S.gset hG (fun _ _ e _ => .inl e) (List.Sublist.nodup (gown_subl hs) nd) (fun p hp => .inl ((gown_subl hs).subset hp)) fun hh => GOk.mono hh (fun _ _ => rfl) (GOk.all fun x hx => G.memb (hs.subset hx))) kt
/-- an owned list becomes a ghost -/
theorem sv_promG {sts : List Stmt} (i iG : Nat) (hi : r[i]? = some (.ol p ds)) (hG : r[iG]? = some (.gs gl)) (h : SV X B W sts ((r.set i (.rf p)).set iG (.gs (gl ++ [(p, Nd.ls (ds.map It.da))]))) P) : SV X B W sts r P := fun H σ E S kt => by
  have ne : i ≠ iG := fun z => by subst z; rw [hi] at hG; cases hG
  have hG' : (r.set i (.rf p))[iG]? = some (.gs gl) := by rw [List.getElem?_set_ne ne]; exact hG
  obtain ⟨e1, vs, e2, ra⟩ := S.sl i _ hi
  have pin : p ∈ own r := mem_own hi (List.mem_singleton.mpr rfl)
  -- first: the list leaves its slot, p is owned no more by r
  have own1' : ∀ q, q ∈ own (r.set i (.rf p)) → q ∈ own r := fun q hq => (own_set_mem hq).elim (fun z => nomatch z) id
  have pn : p ∉ own (r.set i (.rf p)) := by
    have key : ∀ {g : List Sl} {j : Nat}, g[j]? = some (.ol p ds) → (own g).Nodup → p ∉ own (g.set j (.rf p)) := by
      intro g
      induction g with
      | nil => intro j h; simp at h
      | cons a g ih =>
        intro j h nd
        have nd : (ownOf a ++ own g).Nodup := nd
        obtain ⟨n1, n2, n3⟩ := List.nodup_append.mp nd
        cases j with
        | zero =>
          simp at h; subst h
          intro w
          have w : p ∈ own g := w
          exact n3 p (List.mem_singleton.mpr rfl) p w rfl
        | succ j =>
          have hj : g[j]? = some (.ol p ds) := by simpa using h
          intro w
          rcases List.mem_append.mp w with w | w
          · exact n3 p w p (mem_own hj (List.mem_singleton.mpr rfl)) rfl
          · exact ih hj n2 w
    exact key hi S.nd
  have nd1 : (own (r.set i (.rf p))).Nodup := own_set_nd (s := .rf p) List.nodup_nil S.nd (fun _ z => nomatch z)
  have npG : p ∉ gown gl := fun z => pn (mem_own hG' z)
  refine h H σ E ?_ kt
  have hh : Same (hid B r H) (hid B ((r.set i (.rf p)).set iG (.gs (gl ++ [(p, Nd.ls (ds.map It.da))]))) H) := hide_sub fun q hq => by
    rcases List.mem_append.mp hq with z | z
    · rcases own_set_mem z with y | y
      · have y : q ∈ gown (gl ++ [(p, Nd.ls (ds.map It.da))]) := y
        rw [gown_app] at y
        rcases List.mem_append.mp y with y | y
        · exact List.mem_append_left _ (mem_own hG y)
        · exact List.mem_append_left _ (List.mem_singleton.mp y ▸ pin)
      · exact List.mem_append_left _ (own1' q y)
    · exact List.mem_append_right _ z
  have ndG : (gown (gl ++ [(p, Nd.ls (ds.map It.da))])).Nodup := by
    rw [gown_app]
    refine List.nodup_append.mpr ⟨(S.ghosts hG).2, (by show [p].Nodup; simp), fun x hx y hy e => ?_⟩
    have hy : y = p := List.mem_singleton.mp hy
    exact npG (by rw [← hy, ← e]; exact hx)
  refine ⟨S.ex, S.old, fun q hq => ?_, ?_, by rw [List.length_set, List.length_set]; exact S.len, fun j s e => ?_, S.tb, GOk.mono hh (fun _ _ => rfl) S.gr, S.gp⟩
  · rcases own_set_mem hq with y | y
    · have y : q ∈ gown (gl ++ [(p, Nd.ls (ds.map It.da))]) := y
      rw [gown_app] at y
      rcases List.mem_append.mp y with y | y
      · exact S.new q (mem_own hG y)
      · exact S.new q (List.mem_singleton.mp y ▸ pin)
    · exact S.new q (own1' q y)
  · have key : ∀ {g : List Sl} {j : Nat}, g[j]? = some (.gs gl) → (own g).Nodup → p ∉ own g → (own (g.set j (.gs (gl ++ [(p, Nd.ls (ds.map It.da))])))).Nodup := by
      intro g
      induction g with
      | nil => intro j h; simp at h
      | cons a g ih =>
        intro j h nd np
        have nd : (ownOf a ++ own g).Nodup := nd
        obtain ⟨n1, n2, n3⟩ := List.nodup_append.mp nd
        cases j with
        | zero =>
          simp at h; subst h
          show (gown (gl ++ [(p, Nd.ls (ds.map It.da))]) ++ own g).Nodup
          refine List.nodup_append.mpr ⟨ndG, n2, fun x hx y hy e => ?_⟩
          subst e
          rw [gown_app] at hx
          rcases List.mem_append.mp hx with z | z
          · exact n3 x z x hy rfl
          · exact np (List.mem_append_right _ (List.mem_singleton.mp z ▸ hy))
        | succ j =>
          have hj : g[j]? = some (.gs gl) := by simpa using h
          refine List.nodup_append.mpr ⟨n1, ih hj n2 (fun z => np (List.mem_append_right _ z)), fun x hx y hy e => ?_⟩
          subst e
          rcases own_set_mem hy with z | z
          · have z : x ∈ gown (gl ++ [(p, Nd.ls (ds.map It.da))]) := z
            rw [gown_app] at z
            rcases List.mem_append.mp z with w | w
            · exact n3 x hx x (mem_own hj w) rfl
            · exact np (List.mem_append_left _ (List.mem_singleton.mp w ▸ hx))
          · exact n3 x hx x z rfl
    exact key hG' nd1 pn
  · by_cases hj : iG = j
    · subst hj
      rw [List.getElem?_set_self (by rw [List.length_set]; exact (List.getElem?_eq_some_iff.mp hG).1)] at e
      cases e
      exact GOk.app (GOk.mono hh (fun _ _ => rfl) (S.ghosts hG).1) ⟨⟨vs, e2, RpA.its (ra.mono hh)⟩, trivial⟩
    · rw [List.getElem?_set_ne hj] at e
      by_cases hi2 : i = j
      · subst hi2
        rw [List.getElem?_set_self (List.getElem?_eq_some_iff.mp hi).1] at e
        cases e
        exact e1
      · rw [List.getElem?_set_ne hi2] at e
        exact (S.sl j s e).mono hh fun _ _ => rfl
end
end Tp

namespace Tp
open PySem L2
/-! ### statements in two parts: what the first leads to -/
theorem execs_app (env : Env) (b : List Stmt) : ∀ (a : List Stmt), execs (a ++ b) env = (execs a env >>= fun f => match f with | .next => execs b env | f => pure f)
  | [] => by show execs b env = _; rw [show execs [] env = pure .next from rfl, pure_bind]
  | s :: a => by
    show execs (s :: (a ++ b)) env = _
    rw [execs_cons, execs_cons, bind_assoc]
    refine congrArg _ (funext fun f => ?_)
    cases f with
    | next => exact execs_app env b a
    | ret v => exact (pure_bind _ _).symm
    | brk => exact (pure_bind _ _).symm
    | cont => exact (pure_bind _ _).symm
section
variable {X : Cx} {B : Bx} {W : WX} {P : Po} {r : List Sl} {sts a b : List Stmt}
theorem sv_seq (R : List Sl → Prop) (h1 : SV X B W a r (P.then R)) (h2 : ∀ r', R r' → SV X B W b r' P) : SV X B W (a ++ b) r P := fun H σ E S kt => by
  refine ⟨fun E σ H => wS X a { E with nx := wS X b E } σ H, ⟨fun pins s σ H D I h => ?_⟩, h1 H σ _ S (kt.then fun r' σ' H' S' hR => h2 r' hR H' σ' E S' kt)⟩
  rw [execs_app]
  refine wpAny_bind (thn (wS_ok.run pins s σ H { D with nx := wS X b D } I h) fun f s1 q => ?_)
  cases f with
  | next =>
    obtain ⟨σ', H', I', q⟩ := q
    exact wS_ok.run pins s1 σ' H' D I' q
  | ret v => exact wpAny_pure q
  | brk => exact wpAny_pure q
  | cont => exact wpAny_pure q
theorem sv_seqN (n : Nat) (R : List Sl → Prop) (h1 : SV X B W (sts.take n) r (P.then R)) (h2 : ∀ r', R r' → SV X B W (sts.drop n) r' P) : SV X B W sts r P := by
  rw [← List.take_append_drop n sts]
  exact sv_seq R h1 h2
end
end Tp


namespace Tp
open PySem L2
def cell (ns : List Int) (k : Int) : Int :=
  if decide ((if decide (k < ((ns.map PyData.int).length : Int)) = true then ns.getD k.toNat 0 else 0) < 0) = true then 0 - 2 * (if decide (k < ((ns.map PyData.int).length : Int)) = true then ns.getD k.toNat 0 else 0) - 1 else (if decide (k < ((ns.map PyData.int).length : Int)) = true then ns.getD k.toNat 0 else 0)
def numF (c k : Int) : Int := ((c * 48271 + k * 69621 + 11) % 2147483647 * 16807 + k * 12345 + 99991) % 2147483629
def numS (c k : Int) : Int := ((numF c k * 40692 + k * 3791 + c) % 2147483399 * 69621 + 7) % 2147483647
def num (ns : List Int) (k : Int) : Int := if 1000000000 ≤ cell ns k then cell ns k else numF (cell ns k) k * 2147483647 + numS (cell ns k) k
theorem cell_nn (ns : List Int) (k : Int) : 0 ≤ cell ns k := by
  unfold cell
  generalize (if decide (k < ((ns.map PyData.int).length : Int)) = true then ns.getD k.toNat 0 else 0) = z
  by_cases h : z < 0
  · rw [if_pos (decide_eq_true h)]; omega
  · rw [if_neg (by simpa using h)]; omega
theorem numF_in (c k : Int) : 0 ≤ numF c k ∧ numF c k < 2147483629 := by unfold numF; omega
theorem numS_in (c k : Int) : 0 ≤ numS c k ∧ numS c k < 2147483647 := by unfold numS; omega
theorem num_nn (ns : List Int) (k : Int) : 0 ≤ num ns k := by
  unfold num
  have h1 := numF_in (cell ns k) k
  have h2 := numS_in (cell ns k) k
  split
  · exact cell_nn ns k
  · omega
end Tp

namespace Tp
open PySem L2
def keyF (s : Int) : Int := (s * 1103515245 + 12345) % 4294967296
def amt (n : Int) : Int := if n % 16 = 3 then 1000000000000000 - n / 16 % 3 else n / 16 % 40
def hgt (n : Int) : Int := if n % 16 = 5 then 1000000000000 - n / 16 % 3 else n / 16 % 24
theorem keyF_in (s : Int) : 0 ≤ keyF s ∧ keyF s < 4294967296 := by unfold keyF; omega
theorem amt_in (n : Int) : 0 ≤ amt n ∧ amt n ≤ 1000000000000000 := by unfold amt; split <;> omega
theorem hgt_in (n : Int) : 0 ≤ hgt n ∧ hgt n ≤ 1000000000000 := by unfold hgt; split <;> omega
end Tp

namespace Tp
open PySem L2
def mci (b s a : Int) : Int := a + b + (a * s + 999) / 1000
def mayGive (b s g h ik ia il ok oa ol : Int) : Bool :=
  if (!decide (ik = ok) || decide (oa < 1)) = true then false else if decide (ia < mci b s oa) = true then false else (decide (ol + g ≤ il) && decide (h < ol))
theorem mayGive_is (b s g h ik ia il ok oa ol : Int) : mayGive b s g h ik ia il ok oa ol = (decide (ik = ok) && (decide (1 ≤ oa) && decide (mci b s oa ≤ ia)) && (decide (ol + g ≤ il) && decide (h < ol))) := by
  unfold mayGive
  by_cases h1 : ik = ok
  · by_cases h2 : oa < 1
    · have h3 : ¬ 1 ≤ oa := by omega
      simp [h1, h2, h3]
    · have h3 : 1 ≤ oa := by omega
      by_cases h4 : ia < mci b s oa
      · have h5 : ¬ mci b s oa ≤ ia := by omega
        simp [h1, h2, h3, h4, h5]
      · have h5 : mci b s oa ≤ ia := by omega
        simp [h1, h2, h3, h4, h5]
  · simp [h1]
end Tp

namespace Tp
open PySem L2
/-- receipts: keys with their heights -/
def rcv (m : List (Int × Int)) : List (Key × D) := m.map fun x => (Sum.inl x.1, .int x.2)
def look (m : List (Int × Int)) (k : Int) : Option Int := (m.find? fun x => decide (x.1 = k)).map (·.2)
def putI (m : List (Int × Int)) (k h : Int) : List (Int × Int) := if (m.any fun x => decide (x.1 = k)) = true then m.map (fun x => if x.1 = k then (x.1, h) else x) else m ++ [(k, h)]
theorem lk_rcv (k : Int) : ∀ m, lkK (rcv m) (Sum.inl k) = (look m k).map PyData.int
  | [] => rfl
  | (a, b) :: m => by
    have ih := lk_rcv k m
    unfold rcv at ih ⊢
    unfold look at ih ⊢
    rw [List.map_cons, List.find?_cons]
    unfold lkK
    by_cases e : a = k
    · subst e; rw [if_pos rfl, decide_eq_true rfl]; rfl
    · rw [if_neg (fun z => e (Sum.inl.inj z)), decide_eq_false e]; exact ih
theorem any_rcv (k : Int) : ∀ m, ((rcv m).any fun x => decide (x.1 = (Sum.inl k : Key))) = m.any fun x => decide (x.1 = k)
  | [] => rfl
  | (a, b) :: m => by
    show (decide ((Sum.inl a : Key) = Sum.inl k) || (rcv m).any fun x => decide (x.1 = (Sum.inl k : Key))) = (decide (a = k) || m.any fun x => decide (x.1 = k))
    rw [any_rcv k m]
    congr 1
    exact dec_eqv ⟨fun z => Sum.inl.inj z, fun z => congrArg Sum.inl z⟩
theorem putD_rcv (m : List (Int × Int)) (k h : Int) : putD (rcv m) (Sum.inl k) (.int h) = rcv (putI m k h) := by
  unfold putD putI
  rw [any_rcv]
  split
  · unfold rcv
    rw [List.map_map, List.map_map]
    refine List.map_congr_left fun x _ => ?_
    show (if (Sum.inl x.1 : Key) = Sum.inl k then ((Sum.inl x.1 : Key), PyData.int h) else (Sum.inl x.1, .int x.2)) = (fun x : Int × Int => ((Sum.inl x.1 : Key), PyData.int x.2)) (if x.1 = k then (x.1, h) else x)
    by_cases e : x.1 = k
    · rw [if_pos (congrArg Sum.inl e), if_pos e]
    · rw [if_neg (fun z => e (Sum.inl.inj z)), if_neg e]
  · unfold rcv
    rw [List.map_append]; rfl
theorem putI_len (m : List (Int × Int)) (k h : Int) : (putI m k h).length ≤ m.length + 1 := by
  unfold putI
  split
  · rw [List.length_map]; omega
  · rw [List.length_append]; exact Nat.le_refl _
theorem look_put (m : List (Int × Int)) (k h : Int) : look (putI m k h) k = some h := by
  unfold putI
  split
  · rename_i c
    induction m with
    | nil => cases c
    | cons a m ih =>
      unfold look at ih ⊢
      rw [List.map_cons, List.find?_cons]
      by_cases e : a.1 = k
      · rw [if_pos e, decide_eq_true e]; rfl
      · rw [if_neg e, decide_eq_false e]
        rw [List.any_cons, decide_eq_false e, Bool.false_or] at c
        exact ih c
  · rename_i c
    induction m with
    | nil => unfold look; simp
    | cons a m ih =>
      rw [List.any_cons, Bool.or_eq_true, not_or] at c
      unfold look at ih ⊢
      rw [List.cons_append, List.find?_cons, decide_eq_false (by simpa using c.1)]
      exact ih c.2
def wasOp (m : List (Int × Int)) (k dl : Int) : Bool := match look m k with
  | none => false
  | some h => decide (h ≤ dl)
theorem wasOp_up {m : List (Int × Int)} {k a b : Int} (h : wasOp m k a = true) (l : a ≤ b) : wasOp m k b = true := by
  unfold wasOp at h ⊢
  split at h
  · cases h
  · have := of_decide_eq_true h
    exact decide_eq_true (by omega)
theorem wasOp_nil (k a : Int) : wasOp [] k a = false := rfl
def recM (n : Int) : Nat → List (Int × Int)
  | 0 => []
  | j + 1 => putI (recM n j) (keyF (n / (7 + (j : Int) * 5) % 6)) (hgt (n / (11 + (j : Int) * 13)))
def recs (n : Int) : List (Int × Int) := recM n (n % 7).toNat
theorem rcv_len (m : List (Int × Int)) : (rcv m).length = m.length := List.length_map _
theorem recM_len (n : Int) : ∀ j, (rcv (recM n j)).length ≤ j
  | 0 => Nat.le_refl _
  | j + 1 => by
    have h := recM_len n j
    rw [rcv_len] at h ⊢
    exact Nat.le_trans (putI_len _ _ _) (Nat.succ_le_succ h)
theorem recs_len (n : Int) : (rcv (recs n)).length ≤ 6 := Nat.le_trans (recM_len n _) (by omega)
end Tp

namespace Tp
open PySem L2
structure Lk where
  k : Int
  a : Int
  dl : Int
  b : Bool
def lkD (l : Lk) : D := .tuple [.int l.k, .int l.a, .int l.dl, .bool l.b]
def lks (ls : List Lk) : List D := ls.map lkD
def lkOf (n : Int) : Lk := ⟨keyF (n / 2 % 6), amt (n / 12), hgt (n / 7777), decide (n % 2 = 0)⟩
def lksL (n : Int) : Nat → List Lk
  | 0 => []
  | j + 1 => lksL n j ++ [lkOf ((n + (j : Int) * 7919) * (2 * (j : Int) + 1) / ((j : Int) + 1))]
def lksD (n : Int) : Nat → List D
  | 0 => []
  | j + 1 => lksD n j ++ [lkD (lkOf ((n + (j : Int) * 7919) * (2 * (j : Int) + 1) / ((j : Int) + 1)))]
theorem lksD_is (n : Int) : ∀ j, lksD n j = lks (lksL n j)
  | 0 => rfl
  | j + 1 => by
    unfold lksD lksL lks
    rw [List.map_append, lksD_is n j]
    rfl
theorem lksD_len (n : Int) : ∀ j, (lksD n j).length = j
  | 0 => rfl
  | j + 1 => by
    unfold lksD
    rw [List.length_append, lksD_len n j]
    rfl
def lksOf (n many : Int) : List Lk := lksL n many.toNat
theorem lks_len (ls : List Lk) : (lks ls).length = ls.length := List.length_map _
theorem lksOf_len (n many : Int) : (lksOf n many).length = many.toNat := by
  have h := lksD_len n many.toNat
  rw [lksD_is, lks_len] at h
  exact h
theorem lks_at {ls : List Lk} {i : Nat} {d : D} (h : (lks ls)[i]? = some d) : ∃ l, ls[i]? = some l ∧ d = lkD l := by
  unfold lks at h
  rw [List.getElem?_map] at h
  cases e : ls[i]? with
  | none => rw [e] at h; cases h
  | some l => rw [e] at h; exact ⟨l, rfl, (Option.some.inj h).symm⟩
theorem shp_lk (l : Lk) (n : Nat) : Shp (n + 1) (lkD l) := .tup (.cons .int (.cons .int (.cons .int (.cons .bl .nil))))
theorem shp_lks (ls : List Lk) (n : Nat) : ShpA (n + 1) (lks ls) := ShpA.map (fun l => shp_lk l n) ls
theorem fold_take {α β : Type} {f : β → α → β} {l : List α} {i : Nat} {x : α} {s : β} (h : l[i]? = some x) : (l.take (i + 1)).foldl f s = f ((l.take i).foldl f s) x := by
  rw [List.take_succ, h, List.foldl_append]
  rfl
theorem any_take {α : Type} {p : α → Bool} {l : List α} {i : Nat} {x : α} (h : l[i]? = some x) : (l.take (i + 1)).any p = ((l.take i).any p || p x) := by
  rw [List.take_succ, h, List.any_append]
  simp
theorem all_take {α : Type} {p : α → Bool} {l : List α} {i : Nat} {x : α} (h : l[i]? = some x) : (l.take (i + 1)).all p = ((l.take i).all p && p x) := by
  rw [List.take_succ, h, List.all_append]
  simp
/-- what the locks are worth to the two ends -/
def stp (m : List (Int × Int)) (s : Int × Int) (l : Lk) : Int × Int := if wasOp m l.k l.dl = l.b then (s.1, s.2 + l.a) else (s.1 + l.a, s.2)
def shr (m : List (Int × Int)) (ls : List Lk) : Int × Int := ls.foldl (stp m) (0, 0)
theorem items_len (m : List (Int × Int)) : (itemsD (rcv m)).length = m.length := by
  unfold itemsD rcv
  rw [List.length_map, List.length_map]
theorem items_at {m : List (Int × Int)} {i : Nat} {d : D} (h : (itemsD (rcv m))[i]? = some d) : ∃ x, m[i]? = some x ∧ d = .tuple [.int x.1, .int x.2] := by
  unfold itemsD rcv at h
  rw [List.map_map, List.getElem?_map] at h
  cases e : m[i]? with
  | none => rw [e] at h; cases h
  | some l => rw [e] at h; exact ⟨l, rfl, (Option.some.inj h).symm⟩
theorem items_pair {m : List (Int × Int)} {i : Nat} {d : D} (h : (itemsD (rcv m))[i]? = some d) : ∃ a b, d = PyData.tuple [a, b] := by
  obtain ⟨x, _, e⟩ := items_at h
  exact ⟨_, _, e⟩
theorem shp_items (m : List (Int × Int)) (n : Nat) : Shp (n + 2) (.list (itemsD (rcv m))) := by
  unfold itemsD rcv
  rw [List.map_map]
  exact .lst (ShpA.map (fun x => .tup (.cons .int (.cons .int .nil))) m)
theorem putI_nd {m : List (Int × Int)} {k h : Int} (nd : (m.map (·.1)).Nodup) : ((putI m k h).map (·.1)).Nodup := by
  unfold putI
  split
  · rw [List.map_map]
    have e : (m.map ((fun x : Int × Int => x.1) ∘ fun x => if x.1 = k then (x.1, h) else x)) = m.map (·.1) := by
      refine List.map_congr_left fun x _ => ?_
      show (if x.1 = k then (x.1, h) else x).1 = x.1
      split <;> rfl
    rw [e]; exact nd
  · rename_i c
    rw [List.map_append]
    refine List.nodup_append.mpr ⟨nd, by simp, fun a ha b hb e => c ?_⟩
    have hb' : b = k := by simpa using hb
    rw [e, hb'] at ha
    obtain ⟨x, hx, ex⟩ := List.mem_map.mp ha
    exact List.any_eq_true.mpr ⟨x, hx, decide_eq_true ex⟩
theorem recM_nd (n : Int) : ∀ j, ((recM n j).map (·.1)).Nodup
  | 0 => List.nodup_nil
  | j + 1 => putI_nd (recM_nd n j)
theorem recs_nd (n : Int) : ((recs n).map (·.1)).Nodup := recM_nd n _
theorem any_was {k d : Int} : ∀ {m : List (Int × Int)}, (m.map (·.1)).Nodup → (m.any fun x => decide (x.1 = k) && decide (x.2 ≤ d)) = wasOp m k d
  | [], _ => rfl
  | (a, b) :: m, nd => by
    obtain ⟨h1, h2⟩ := List.nodup_cons.mp nd
    have ih := any_was (k := k) (d := d) h2
    rw [List.any_cons]
    by_cases e : a = k
    · subst e
      have no : (m.any fun x => decide (x.1 = a) && decide (x.2 ≤ d)) = false := by
        rw [List.any_eq_false]
        intro x hx z
        rw [Bool.and_eq_true] at z
        exact h1 (List.mem_map.mpr ⟨x, hx, of_decide_eq_true z.1⟩)
      rw [no, decide_eq_true rfl, Bool.true_and, Bool.or_false]
      unfold wasOp look
      rw [List.find?_cons, decide_eq_true rfl]
      rfl
    · rw [decide_eq_false e, Bool.false_and, Bool.false_or, ih]
      unfold wasOp look
      rw [List.find?_cons, decide_eq_false e]
theorem two_ints {a b : Int} {i : Nat} {d : D} (h : ([.int a, .int b] : List D)[i]? = some d) : ∃ z, d = .int z := by
  match i, h with
  | 0, h => exact ⟨a, (Option.some.inj h).symm⟩
  | 1, h => exact ⟨b, (Option.some.inj h).symm⟩
  | n + 2, h => simp at h
theorem xnor {a b : Bool} (h : (a && b || !a && !b) = true) : a = b := by cases a <;> cases b <;> simp_all
theorem xnor' {a b : Bool} (h : (a && b || !a && !b) = false) : ¬ a = b := by cases a <;> cases b <;> simp_all
end Tp

namespace Tp
open PySem L2
structure Tl where
  b : Int
  s : Int
  g : Int
def tlD (t : Tl) : D := .tuple [.int t.b, .int t.s, .int t.g]
def tls (l : List Tl) : List D := l.map tlD
structure TlOk (t : Tl) : Prop where
  b : 0 ≤ t.b ∧ t.b ≤ 1000000000000000
  s : 0 ≤ t.s ∧ t.s ≤ 100000
  g : 0 ≤ t.g ∧ t.g ≤ 1000
def prD (x : Int × Int) : D := .tuple [.int x.1, .int x.2]
def prs (l : List (Int × Int)) : List D := l.map prD
/-- what comes in, behind a toll -/
def tstep (t : Tl) (x : Int × Int) : Int × Int := (mci t.b t.s x.1, x.2 + t.g)
/-- the rows, the last one first: behind the tolls l, the last toll first -/
def rowsR (x : Int × Int) : List Tl → List (Int × Int)
  | [] => [x]
  | t :: l => x :: rowsR (tstep t x) l
def lastR (x : Int × Int) (l : List Tl) : Int × Int := l.foldl (fun y t => tstep t y) x
theorem rowsR_snoc (t : Tl) : ∀ (l : List Tl) (x : Int × Int), rowsR x (l ++ [t]) = rowsR x l ++ [tstep t (lastR x l)]
  | [], x => rfl
  | a :: l, x => congrArg (x :: ·) (rowsR_snoc t l _)
theorem rowsR_len : ∀ (l : List Tl) (x : Int × Int), (rowsR x l).length = l.length + 1
  | [], x => rfl
  | a :: l, x => congrArg (· + 1) (rowsR_len l _)
theorem tls_len (l : List Tl) : (tls l).length = l.length := List.length_map _
theorem prs_len (l : List (Int × Int)) : (prs l).length = l.length := List.length_map _
theorem tls_rev (l : List Tl) : (tls l).reverse = tls l.reverse := (List.map_reverse).symm
theorem prs_rev (l : List (Int × Int)) : (prs l).reverse = prs l.reverse := (List.map_reverse).symm
theorem tls_at {l : List Tl} {i : Nat} {d : D} (h : (tls l)[i]? = some d) : ∃ t, l[i]? = some t ∧ d = tlD t := by
  unfold tls at h
  rw [List.getElem?_map] at h
  cases e : l[i]? with
  | none => rw [e] at h; cases h
  | some t => rw [e] at h; exact ⟨t, rfl, (Option.some.inj h).symm⟩
theorem take_snoc {α : Type} {l : List α} {i : Nat} {a : α} (h : l[i]? = some a) : l.take (i + 1) = l.take i ++ [a] := by
  rw [List.take_succ, h]; rfl
theorem tstep_le {t : Tl} (h : TlOk t) {x : Int × Int} (hx : 0 ≤ x.1) : x.1 ≤ (tstep t x).1 := by
  have h1 := h.b
  have h2 : 0 ≤ x.1 * t.s := Int.mul_nonneg hx h.s.1
  show x.1 ≤ mci t.b t.s x.1
  unfold mci
  generalize x.1 * t.s = z at h2 ⊢
  omega
theorem lastR_ge : ∀ {l : List Tl} (_ : ∀ t ∈ l, TlOk t) {x : Int × Int}, 0 ≤ x.1 → x.1 ≤ (lastR x l).1
  | [], _, x, _ => Int.le_refl _
  | t :: l, h, x, hx => by
    have h1 := tstep_le (h t List.mem_cons_self) hx
    exact Int.le_trans h1 (lastR_ge (l := l) (fun t ht => h t (List.mem_cons_of_mem _ ht)) (Int.le_trans hx h1))
theorem lastR_app (a b : List Tl) (x : Int × Int) : lastR x (a ++ b) = lastR (lastR x a) b := List.foldl_append
theorem lastR_take {l : List Tl} (h : ∀ t ∈ l, TlOk t) {x : Int × Int} (hx : 0 ≤ x.1) (i : Nat) : (lastR x (l.take i)).1 ≤ (lastR x l).1 := by
  have e := lastR_app (l.take i) (l.drop i) x
  rw [List.take_append_drop] at e
  rw [e]
  exact lastR_ge (fun t ht => h t (List.mem_of_mem_drop ht)) (Int.le_trans hx (lastR_ge (fun t ht => h t (List.mem_of_mem_take ht)) hx))
theorem lastR_snoc (t : Tl) (l : List Tl) (x : Int × Int) : lastR x (l ++ [t]) = tstep t (lastR x l) := by
  rw [lastR_app]; rfl
theorem rowsR_end : ∀ (l : List Tl) (x : Int × Int), ∃ ini, rowsR x l = ini ++ [lastR x l]
  | [], x => ⟨[], rfl⟩
  | t :: l, x => by
    obtain ⟨ini, h⟩ := rowsR_end l (tstep t x)
    exact ⟨x :: ini, congrArg (x :: ·) h⟩
theorem rowsR_rev (l : List Tl) (x : Int × Int) : ∃ tl, (rowsR x l).reverse = lastR x l :: tl := by
  obtain ⟨ini, h⟩ := rowsR_end l x
  exact ⟨ini.reverse, by rw [h, List.reverse_append]; rfl⟩
theorem due_at {l : List Tl} {i : Nat} {t : Tl} (h : l.reverse[i]? = some t) : atI (tls l) (((tls l).length : Int) - 1 - (i : Int)) = some (tlD t) := by
  have hi : i < l.length := by
    have := (List.getElem?_eq_some_iff.mp h).1
    rwa [List.length_reverse] at this
  rw [List.getElem?_reverse hi] at h
  rw [tls_len]
  refine atI_of (by omega) ?_
  have e : ((l.length : Int) - 1 - (i : Int)).toNat = l.length - 1 - i := by omega
  rw [e]
  unfold tls
  rw [List.getElem?_map, h]
  rfl
def tlOf (n : Int) : Tl := ⟨amt (n / 13), n % 1300, n / 1300 % 12⟩
theorem tlOf_ok (n : Int) : TlOk (tlOf n) := ⟨amt_in _, by show 0 ≤ n % 1300 ∧ n % 1300 ≤ 100000; omega, by show 0 ≤ n / 1300 % 12 ∧ n / 1300 % 12 ≤ 1000; omega⟩
def tolL (ns : List Int) (k : Int) : Nat → List Tl
  | 0 => []
  | j + 1 => tolL ns k j ++ [tlOf (num ns (k + (j : Int)))]
theorem tolL_ok (ns : List Int) (k : Int) : ∀ j, ∀ t ∈ tolL ns k j, TlOk t
  | 0, t, h => by cases h
  | j + 1, t, h => by
    rcases List.mem_append.mp h with h | h
    · exact tolL_ok ns k j t h
    · cases List.mem_singleton.mp h
      exact tlOf_ok _
theorem tolL_len (ns : List Int) (k : Int) : ∀ j, (tolL ns k j).length = j
  | 0 => rfl
  | j + 1 => by
    unfold tolL
    rw [List.length_append, tolL_len ns k j]
    rfl
theorem tls_snoc (l : List Tl) (t : Tl) : tls (l ++ [t]) = tls l ++ [tlD t] := List.map_append
theorem prs_snoc (l : List (Int × Int)) (t : Int × Int) : prs (l ++ [t]) = prs l ++ [prD t] := List.map_append
theorem rev_some {l : List Tl} {i : Nat} (h : (i : Int) < (l.length : Int)) : ∃ t, l.reverse[i]? = some t := by
  have h2 : i < l.reverse.length := by rw [List.length_reverse]; omega
  exact ⟨l.reverse[i], List.getElem?_eq_getElem h2⟩
theorem due_is (t : Tl) (z : Int × Int) : tstep t z = (z.1 + t.b + (if decide (z.1 * t.s / 1000 * 1000 < z.1 * t.s) = true then z.1 * t.s / 1000 + 1 else z.1 * t.s / 1000), z.2 + t.g) := by
  unfold tstep mci
  refine Prod.ext ?_ rfl
  show z.1 + t.b + (z.1 * t.s + 999) / 1000 = z.1 + t.b + _
  generalize z.1 * t.s = w
  by_cases h : w / 1000 * 1000 < w
  · rw [if_pos (decide_eq_true h)]; omega
  · rw [if_neg (by rw [decide_eq_false h]; exact Bool.false_ne_true)]; omega
theorem getD_in {lo hi : Int} (h0 : lo ≤ 0 ∧ 0 ≤ hi) : ∀ {l : List Int} (_ : ∀ x ∈ l, lo ≤ x ∧ x ≤ hi) (i : Nat), lo ≤ l.getD i 0 ∧ l.getD i 0 ≤ hi
  | [], _, i => by simpa using h0
  | a :: l, h, 0 => h a List.mem_cons_self
  | a :: l, h, i + 1 => getD_in h0 (l := l) (fun x hx => h x (List.mem_cons_of_mem _ hx)) i
theorem shp_tls (l : List Tl) (n : Nat) : ShpA (n + 1) (tls l) := ShpA.map (fun t => .tup (.cons .int (.cons .int (.cons .int .nil)))) l
theorem sma_prs (l : List (Int × Int)) (n : Nat) : SmA (n + 1) (prs l) := SmA.map (fun t => Sm.tup (ds := [.int t.1, .int t.2]) (show 2 ≤ 100000 by decide) (.cons .int (.cons .int .nil))) l
/-- what legs says: rows, or which error -/
def legOk (x : Int × Int) (l : List Tl) : Prop := l.length ≤ 20 ∧ (lastR x l.reverse).1 ≤ 1000000000000000
end Tp

namespace Tp
open PySem L2
structure Wy where
  ch : Int
  gv : Int
  tk : Int
  t : Tl
  mo : Int
def wyD (w : Wy) : D := .tuple [.int w.ch, .int w.gv, .int w.tk, tlD w.t, .int w.mo]
def wys (l : List Wy) : List D := l.map wyD
structure Lm where
  ch : Int
  gv : Int
  lo : Int
  be : Option Int
def beD : Option Int → D
  | none => .none
  | some b => .int b
def lmD (l : Lm) : D := .tuple [.int l.ch, .int l.gv, .int l.lo, beD l.be]
def lms (l : List Lm) : List D := l.map lmD
def olmD : Option Lm → D
  | none => .none
  | some l => lmD l
theorem map_at {α : Type} {f : α → D} {l : List α} {i : Nat} {d : D} (h : (l.map f)[i]? = some d) : ∃ t, l[i]? = some t ∧ d = f t := by
  rw [List.getElem?_map] at h
  cases e : l[i]? with
  | none => rw [e] at h; cases h
  | some t => rw [e] at h; exact ⟨t, rfl, (Option.some.inj h).symm⟩
theorem wys_len (l : List Wy) : (wys l).length = l.length := List.length_map _
theorem lms_len (l : List Lm) : (lms l).length = l.length := List.length_map _
def isL (c g : Int) (l : Lm) : Bool := decide (l.ch = c) && decide (l.gv = g)
def lmAt (L : List Lm) (c g : Int) : Option Lm := L.find? (isL c g)
theorem find_take {α : Type} {p : α → Bool} {L : List α} {i : Nat} {a : α} (h : L[i]? = some a) (h0 : (L.take i).find? p = none) (ha : p a = true) : L.find? p = some a := by
  have e := List.take_append_drop i L
  rw [← e, List.find?_append, h0]
  obtain ⟨hi, e2⟩ := List.getElem?_eq_some_iff.mp h
  rw [List.drop_eq_getElem_cons hi, e2, List.find?_cons, ha]
  rfl
theorem find_more {α : Type} {p : α → Bool} {L : List α} {i : Nat} {a : α} (h : L[i]? = some a) (h0 : (L.take i).find? p = none) (ha : p a = false) : (L.take (i + 1)).find? p = none := by
  rw [take_snoc h, List.find?_append, h0, List.find?_cons, ha]
  rfl
/-- may the way carry the amount, by its limit -/
def mayC (w : Wy) (a : Int) (o : Option Lm) : Bool := if w.mo < a then false else match o with
  | none => true
  | some l => match l.be with
    | none => true
    | some b => decide (a < b)
structure WyOk (w : Wy) : Prop where
  b : 0 ≤ w.t.b ∧ w.t.b ≤ 1000000000000000
  s : 0 ≤ w.t.s ∧ w.t.s ≤ 100000
/-- what is sent on each way, the last way first -/
def ldR (a : Int) : List Wy → List Int
  | [] => []
  | w :: l => a :: ldR (mci w.t.b w.t.s a) l
def ldE (a : Int) (l : List Wy) : Int := l.foldl (fun x w => mci w.t.b w.t.s x) a
def itD (l : List Int) : List D := l.map PyData.int
theorem itD_len (l : List Int) : (itD l).length = l.length := List.length_map _
theorem ldR_snoc (w : Wy) : ∀ (l : List Wy) (a : Int), ldR a (l ++ [w]) = ldR a l ++ [ldE a l]
  | [], a => rfl
  | v :: l, a => congrArg (a :: ·) (ldR_snoc w l _)
theorem ldE_snoc (w : Wy) (l : List Wy) (a : Int) : ldE a (l ++ [w]) = mci w.t.b w.t.s (ldE a l) := by
  unfold ldE
  rw [List.foldl_append]
  rfl
theorem ldR_len : ∀ (l : List Wy) (a : Int), (ldR a l).length = l.length
  | [], a => rfl
  | v :: l, a => congrArg (· + 1) (ldR_len l _)
theorem itD_snoc (l : List Int) (a : Int) : itD (l ++ [a]) = itD l ++ [.int a] := List.map_append
theorem wys_rev (l : List Wy) : (wys l).reverse = wys l.reverse := (List.map_reverse).symm
theorem itD_rev (l : List Int) : (itD l).reverse = itD l.reverse := (List.map_reverse).symm
theorem lms_snoc (l : List Lm) (a : Lm) : lms (l ++ [a]) = lms l ++ [lmD a] := List.map_append
theorem shp_lms (l : List Lm) (n : Nat) : ShpA (n + 1) (lms l) := ShpA.map (fun t => .tup (.cons .int (.cons .int (.cons .int (.cons (by cases h : t.be <;> constructor) .nil))))) l
theorem sm_lm (l : Lm) (n : Nat) : Sm (n + 1) (lmD l) := Sm.tup (ds := [.int l.ch, .int l.gv, .int l.lo, beD l.be]) (show 4 ≤ 100000 by decide) (.cons .int (.cons .int (.cons .int (.cons (by cases h : l.be <;> constructor) .nil))))
theorem sm_olm (l : Option Lm) (n : Nat) : Sm (n + 1) (olmD l) := by
  cases l with
  | none => exact .non
  | some l => exact sm_lm l n
theorem sma_itD (l : List Int) (n : Nat) : SmA n (itD l) := SmA.map (fun t => .int) l
/-- the draws -/
def most16 (n : Int) : Int := if n / 194400000 % 6 = 2 then 1000000000000000 - n / 194400000 / 6 % 3 else n / 2160000 % 90
def wyOf (n : Int) : Wy := ⟨n % 6, n / 6 % 4, n / 30 % 4, ⟨n / 150 % 6, n / 900 % 400, n / 360000 % 6⟩, most16 n⟩
theorem most_in (n : Int) : 0 ≤ most16 n ∧ most16 n ≤ 1000000000000000 := by unfold most16; split <;> omega
def wayL (ns : List Int) (k : Int) (m : Nat) : List Wy := (List.range m).map fun (j : Nat) => wyOf (num ns (k + (j : Int)))
theorem wayL_len (ns : List Int) (k : Int) (m : Nat) : (wayL ns k m).length = m := by unfold wayL; rw [List.length_map, List.length_range]
structure Wy16 (w : Wy) : Prop where
  b : 0 ≤ w.t.b ∧ w.t.b ≤ 5
  s : 0 ≤ w.t.s ∧ w.t.s ≤ 399
  g : 0 ≤ w.t.g ∧ w.t.g ≤ 5
  m : 0 ≤ w.mo ∧ w.mo ≤ 1000000000000000
  c : 0 ≤ w.ch ∧ w.ch ≤ 5
  v : 0 ≤ w.gv ∧ w.gv ≤ 3
  k : 0 ≤ w.tk ∧ w.tk ≤ 3
theorem wyOf_ok (n : Int) : Wy16 (wyOf n) := ⟨by show 0 ≤ n / 150 % 6 ∧ n / 150 % 6 ≤ 5; omega, by show 0 ≤ n / 900 % 400 ∧ n / 900 % 400 ≤ 399; omega, by show 0 ≤ n / 360000 % 6 ∧ n / 360000 % 6 ≤ 5; omega, most_in n, by show 0 ≤ n % 6 ∧ n % 6 ≤ 5; omega, by show 0 ≤ n / 6 % 4 ∧ n / 6 % 4 ≤ 3; omega, by show 0 ≤ n / 30 % 4 ∧ n / 30 % 4 ≤ 3; omega⟩
theorem wayL_ok (ns : List Int) (k : Int) (m : Nat) : ∀ w ∈ wayL ns k m, Wy16 w := fun w hw => by
  unfold wayL at hw
  obtain ⟨j, _, e⟩ := List.mem_map.mp hw
  exact e ▸ wyOf_ok _
theorem Wy16.ok {w : Wy} (h : Wy16 w) : WyOk w := ⟨by have := h.b; omega, by have := h.s; omega⟩
def lmOf (r : Int) : Lm := ⟨r % 6, r / 6 % 5, r / 8100 % 60, if 0 < r / 30 % 3 then some (r / 90 % 90) else none⟩
def limS (L : List Lm) (x : Lm) : List Lm := if ((L.filter (isL x.ch x.gv)).length : Int) = 0 then L ++ [x] else L
def limL (n : Int) : Nat → List Lm
  | 0 => []
  | j + 1 => limS (limL n j) (lmOf (n / (7 + 11 * (j : Int))))
def lims (n : Int) : List Lm := limL n (n % 6).toNat
theorem limS_len (L : List Lm) (x : Lm) : (limS L x).length ≤ L.length + 1 := by
  unfold limS
  split
  · rw [List.length_append]; exact Nat.le_refl _
  · omega
theorem limL_len (n : Int) : ∀ j, (limL n j).length ≤ j
  | 0 => Nat.le_refl _
  | j + 1 => Nat.le_trans (limS_len _ _) (Nat.succ_le_succ (limL_len n j))
theorem lims_len (n : Int) : (lims n).length ≤ 5 := Nat.le_trans (limL_len n _) (by omega)
def UqL (L : List Lm) : Prop := (L.map fun l => (l.ch, l.gv)).Nodup
theorem limS_uq {L : List Lm} {x : Lm} (h : UqL L) : UqL (limS L x) := by
  unfold limS
  split
  · rename_i c
    unfold UqL at h ⊢
    rw [List.map_append]
    refine List.nodup_append.mpr ⟨h, by simp, fun a ha b hb e => ?_⟩
    have hb' : b = (x.ch, x.gv) := by simpa using hb
    rw [e, hb'] at ha
    obtain ⟨l, hl, el⟩ := List.mem_map.mp ha
    have e1 : l.ch = x.ch := congrArg Prod.fst el
    have e2 : l.gv = x.gv := congrArg Prod.snd el
    have hf : l ∈ L.filter (isL x.ch x.gv) := List.mem_filter.mpr ⟨hl, by unfold isL; rw [e1, e2]; simp⟩
    have hz : (L.filter (isL x.ch x.gv)).length = 0 := by omega
    rw [List.length_eq_zero_iff] at hz
    rw [hz] at hf
    cases hf
  · exact h
theorem limL_uq (n : Int) : ∀ j, UqL (limL n j)
  | 0 => List.nodup_nil
  | j + 1 => limS_uq (limL_uq n j)
theorem lims_uq (n : Int) : UqL (lims n) := limL_uq n _
theorem lim_yes {n : Int} {i : Nat} {f : Lm → D} (h : decide (((((limL n i).filter (isL (lmOf (n / (7 + 11 * (i : Int)))).ch (lmOf (n / (7 + 11 * (i : Int)))).gv)).map f).length : Int) = 0) = true) : limL n (i + 1) = limL n i ++ [lmOf (n / (7 + 11 * (i : Int)))] := by
  have h := of_decide_eq_true h
  rw [List.length_map] at h
  show limS _ _ = _
  unfold limS
  rw [if_pos h]
theorem lim_no {n : Int} {i : Nat} {f : Lm → D} (h : decide (((((limL n i).filter (isL (lmOf (n / (7 + 11 * (i : Int)))).ch (lmOf (n / (7 + 11 * (i : Int)))).gv)).map f).length : Int) = 0) = false) : limL n (i + 1) = limL n i := by
  have h := of_decide_eq_false h
  rw [List.length_map] at h
  show limS _ _ = _
  unfold limS
  rw [if_neg h]
theorem lmOf_yes {r : Int} (h : decide (r / 30 % 3 > 0) = true) : lmD (lmOf r) = .tuple [.int (r % 6), .int (r / 6 % 5), .int (r / 8100 % 60), .int (r / 90 % 90)] := by
  unfold lmOf lmD
  rw [if_pos (of_decide_eq_true h)]
  rfl
theorem lmOf_no {r : Int} (h : decide (r / 30 % 3 > 0) = false) : lmD (lmOf r) = .tuple [.int (r % 6), .int (r / 6 % 5), .int (r / 8100 % 60), .none] := by
  unfold lmOf lmD
  rw [if_neg (of_decide_eq_false h)]
  rfl
structure LmOk (l : Lm) : Prop where
  b : ∀ b, l.be = some b → 0 ≤ b ∧ b ≤ 89
theorem lmOf_ok (r : Int) : LmOk (lmOf r) := ⟨fun b h => by
  unfold lmOf at h
  dsimp only at h
  split at h
  · cases h; omega
  · cases h⟩
theorem limL_ok (n : Int) : ∀ j, ∀ l ∈ limL n j, LmOk l
  | 0, l, h => by cases h
  | j + 1, l, h => by
    unfold limL limS at h
    split at h
    · rcases List.mem_append.mp h with h | h
      · exact limL_ok n j l h
      · cases List.mem_singleton.mp h; exact lmOf_ok _
    · exact limL_ok n j l h
theorem lims_ok (n : Int) : ∀ l ∈ lims n, LmOk l := limL_ok n _
end Tp

namespace Tp
open PySem L2
/-- the last limit of a direction -/
def lastM (c g : Int) (o : Option Lm) (l : Lm) : Option Lm := if isL c g l = true then some l else o
def dueF (L : List Lm) (c g : Int) : Option Lm := L.foldl (lastM c g) none
theorem lastM_fix {c g : Int} : ∀ {L : List Lm} (_ : ∀ l ∈ L, isL c g l = false) (o : Option Lm), L.foldl (lastM c g) o = o
  | [], _, o => rfl
  | l :: L, h, o => by
    show L.foldl (lastM c g) (lastM c g o l) = o
    have e : lastM c g o l = o := by unfold lastM; rw [h l List.mem_cons_self]; rfl
    rw [e]
    exact lastM_fix (fun x hx => h x (List.mem_cons_of_mem _ hx)) o
theorem due_uq {c g : Int} : ∀ {L : List Lm}, UqL L → ∀ o, L.foldl (lastM c g) o = match lmAt L c g with
    | none => o
    | some l => some l
  | [], _, o => rfl
  | l :: L, h, o => by
    obtain ⟨h1, h2⟩ := List.nodup_cons.mp h
    show L.foldl (lastM c g) (lastM c g o l) = _
    unfold lmAt
    rw [List.find?_cons]
    cases e : isL c g l with
    | true =>
      have no : ∀ x ∈ L, isL c g x = false := by
        intro x hx
        cases z : isL c g x with
        | false => rfl
        | true =>
          exfalso
          refine h1 (List.mem_map.mpr ⟨x, hx, ?_⟩)
          unfold isL at z e
          rw [Bool.and_eq_true] at z e
          show (x.ch, x.gv) = (l.ch, l.gv)
          rw [of_decide_eq_true z.1, of_decide_eq_true z.2, of_decide_eq_true e.1, of_decide_eq_true e.2]
      rw [lastM_fix no]
      unfold lastM
      rw [e]
      rfl
    | false =>
      have e2 : lastM c g o l = o := by unfold lastM; rw [e]; rfl
      rw [e2, due_uq h2 o]
      rfl
theorem dueF_is {c g : Int} {L : List Lm} (h : UqL L) : dueF L c g = lmAt L c g := by
  unfold dueF
  rw [due_uq h]
  cases lmAt L c g <;> rfl
theorem due_yes {L : List Lm} {i : Nat} {m : Lm} {c g : Int} (hm : L[i]? = some m) (h : (decide (m.ch = c) && decide (m.gv = g)) = true) : dueF (L.take (i + 1)) c g = some m := by
  unfold dueF
  rw [fold_take hm]
  unfold lastM
  rw [show isL c g m = true from h]
  rfl
theorem due_no {L : List Lm} {i : Nat} {m : Lm} {c g : Int} (hm : L[i]? = some m) (h : (decide (m.ch = c) && decide (m.gv = g)) = false) : dueF (L.take (i + 1)) c g = dueF (L.take i) c g := by
  unfold dueF
  rw [fold_take hm]
  have e : isL c g m = false := h
  conv => lhs; unfold lastM
  rw [e]
  rfl
theorem lmAt_mem {L : List Lm} {c g : Int} {l : Lm} (h : lmAt L c g = some l) : l ∈ L := List.mem_of_find?_eq_some h
theorem rev_some' {l : List Wy} {i : Nat} (h : (i : Int) < (l.length : Int)) : ∃ t, l.reverse[i]? = some t ∧ atI (wys l) (((wys l).length : Int) - 1 - (i : Int)) = some (wyD t) := by
  have h2 : i < l.reverse.length := by rw [List.length_reverse]; omega
  refine ⟨l.reverse[i], List.getElem?_eq_getElem h2, ?_⟩
  have hi : i < l.length := by omega
  have e0 : l[l.length - 1 - i]? = some l.reverse[i] := by
    rw [← List.getElem?_reverse hi]
    exact List.getElem?_eq_getElem h2
  rw [wys_len]
  refine atI_of (by omega) ?_
  have e : ((l.length : Int) - 1 - (i : Int)).toNat = l.length - 1 - i := by omega
  rw [e]
  unfold wys
  rw [List.getElem?_map, e0]
  rfl
theorem mci_is (b s a : Int) : a + b + (if decide (a * s / 1000 * 1000 < a * s) = true then a * s / 1000 + 1 else a * s / 1000) = mci b s a := by
  unfold mci
  generalize a * s = w
  by_cases h : w / 1000 * 1000 < w
  · rw [if_pos (decide_eq_true h)]; omega
  · rw [if_neg (by rw [decide_eq_false h]; exact Bool.false_ne_true)]; omega
end Tp

namespace Tp
open PySem L2
inductive Oc where
  | passed
  | lacks (p : Int)
  | refuses (p : Int)
def ocD : Oc → D
  | .passed => .tuple [.str "passed"]
  | .lacks p => .tuple [.str "lacks", .int p]
  | .refuses p => .tuple [.str "refuses", .int p]
def OcOk : Oc → Prop
  | .passed => True
  | .lacks p => 0 ≤ p ∧ p ≤ 100000
  | .refuses p => 0 ≤ p ∧ p ≤ 100000
def woL (L : List Lm) (c g : Int) : List Lm := L.filter fun l => !(isL c g l)
def caL (L : List Lm) (w : Wy) (x : Int) : Lm := match lmAt L w.ch w.gv with
  | none => ⟨w.ch, w.gv, x, none⟩
  | some o => ⟨w.ch, w.gv, if x > o.lo then x else o.lo, o.be⟩
def carF (L : List Lm) (w : Wy) (x : Int) : List Lm := caL L w x :: woL L w.ch w.gv
def miB (o : Option Int) (b : Int) : Int := match o with
  | none => b
  | some z => if b < z then b else z
def spL (L : List Lm) (w : Wy) (b : Int) : Lm := match lmAt L w.ch w.gv with
  | none => ⟨w.ch, w.gv, 0, some b⟩
  | some o => ⟨w.ch, w.gv, o.lo, some (miB o.be b)⟩
def stpF (L : List Lm) (w : Wy) (b : Int) : List Lm := spL L w b :: woL L w.ch w.gv
def dWy : Wy := ⟨0, 0, 0, ⟨0, 0, 0⟩, 0⟩
def crd (L : List Lm) (l : List Wy) (xs : List Int) : Nat → List Lm
  | 0 => L
  | k + 1 => carF (crd L l xs k) (l.getD k dWy) (xs.getD k 0)
def pasF (L : List Lm) (l : List Wy) : List Lm := L.filter fun m => !(l.any fun w => decide (w.ch = m.ch))
def tauF (L : List Lm) (l : List Wy) (xs : List Int) : Oc → List Lm
  | .passed => pasF L l
  | .lacks p => if (l.length : Int) ≤ p then L else stpF (crd L l xs p.toNat) (l.getD p.toNat dWy) (xs.getD p.toNat 0)
  | .refuses p => if (l.length : Int) ≤ p then L else stpF (crd L l xs p.toNat) (l.getD p.toNat dWy) 0
theorem tau_la (L : List Lm) (l : List Wy) (xs : List Int) (p : Int) : tauF L l xs (.lacks p) = if (l.length : Int) ≤ p then L else stpF (crd L l xs p.toNat) (l.getD p.toNat dWy) (xs.getD p.toNat 0) := rfl
theorem tau_re (L : List Lm) (l : List Wy) (xs : List Int) (p : Int) : tauF L l xs (.refuses p) = if (l.length : Int) ≤ p then L else stpF (crd L l xs p.toNat) (l.getD p.toNat dWy) 0 := rfl
theorem woL_len (L : List Lm) (c g : Int) : (woL L c g).length ≤ L.length := List.length_filter_le _ _
theorem crd_len (L : List Lm) (l : List Wy) (xs : List Int) : ∀ k, (crd L l xs k).length ≤ L.length + k
  | 0 => Nat.le_refl _
  | k + 1 => by
    have h1 := crd_len L l xs k
    have h2 := woL_len (crd L l xs k) (l.getD k dWy).ch (l.getD k dWy).gv
    show (woL _ _ _).length + 1 ≤ _
    omega
theorem stpF_len (L : List Lm) (w : Wy) (b : Int) : (stpF L w b).length ≤ L.length + 1 := Nat.succ_le_succ (woL_len _ _ _)
theorem tauF_len {L : List Lm} {l : List Wy} {xs : List Int} {o : Oc} (h : OcOk o) : (tauF L l xs o).length ≤ L.length + l.length + 1 := by
  cases o with
  | passed => exact Nat.le_trans (List.length_filter_le _ _) (by omega)
  | lacks p =>
    rw [tau_la]
    split
    · omega
    · have h1 := crd_len L l xs p.toNat
      have h2 := stpF_len (crd L l xs p.toNat) (l.getD p.toNat dWy) (xs.getD p.toNat 0)
      have h3 : 0 ≤ p := h.1
      omega
  | refuses p =>
    rw [tau_re]
    split
    · omega
    · have h1 := crd_len L l xs p.toNat
      have h2 := stpF_len (crd L l xs p.toNat) (l.getD p.toNat dWy) 0
      have h3 : 0 ≤ p := h.1
      omega
theorem wo_uq {L : List Lm} (h : UqL L) (c g : Int) : UqL (woL L c g) := List.Nodup.sublist (List.Sublist.map _ (List.filter_sublist)) h
theorem add_uq {L : List Lm} (h : UqL L) {x : Lm} {c g : Int} (e1 : x.ch = c) (e2 : x.gv = g) : UqL (x :: woL L c g) := by
  refine List.nodup_cons.mpr ⟨fun m => ?_, wo_uq h c g⟩
  obtain ⟨y, hy, ey⟩ := List.mem_map.mp m
  have hp := (List.mem_filter.mp hy).2
  have e3 : y.ch = x.ch := congrArg Prod.fst ey
  have e4 : y.gv = x.gv := congrArg Prod.snd ey
  unfold isL at hp
  rw [e3, e4, e1, e2] at hp
  simp at hp
theorem caL_dir (L : List Lm) (w : Wy) (x : Int) : (caL L w x).ch = w.ch ∧ (caL L w x).gv = w.gv := by unfold caL; split <;> exact ⟨rfl, rfl⟩
theorem spL_dir (L : List Lm) (w : Wy) (x : Int) : (spL L w x).ch = w.ch ∧ (spL L w x).gv = w.gv := by unfold spL; split <;> exact ⟨rfl, rfl⟩
theorem carF_uq {L : List Lm} (h : UqL L) (w : Wy) (x : Int) : UqL (carF L w x) := add_uq h (caL_dir L w x).1 (caL_dir L w x).2
theorem stpF_uq {L : List Lm} (h : UqL L) (w : Wy) (x : Int) : UqL (stpF L w x) := add_uq h (spL_dir L w x).1 (spL_dir L w x).2
theorem crd_uq {L : List Lm} (h : UqL L) (l : List Wy) (xs : List Int) : ∀ k, UqL (crd L l xs k)
  | 0 => h
  | k + 1 => carF_uq (crd_uq h l xs k) _ _
theorem tauF_uq {L : List Lm} (h : UqL L) (l : List Wy) (xs : List Int) (o : Oc) : UqL (tauF L l xs o) := by
  cases o with
  | passed => exact List.Nodup.sublist (List.Sublist.map _ (List.filter_sublist)) h
  | lacks p => rw [tau_la]; split; exact h; exact stpF_uq (crd_uq h _ _ _) _ _
  | refuses p => rw [tau_re]; split; exact h; exact stpF_uq (crd_uq h _ _ _) _ _
theorem wy_atI {l : List Wy} {p : Int} (h0 : 0 ≤ p) (h1 : p < (l.length : Int)) : atI (wys l) p = some (wyD (l.getD p.toNat dWy)) := by
  refine atI_of h0 ?_
  have h2 : p.toNat < l.length := by omega
  unfold wys
  rw [List.getElem?_map, List.getD_eq_getElem?_getD, List.getElem?_eq_getElem h2]
  rfl
theorem it_atI {l : List Int} {p : Int} (h0 : 0 ≤ p) (h1 : p < (l.length : Int)) : atI (itD l) p = some (.int (l.getD p.toNat 0)) := by
  refine atI_of h0 ?_
  have h2 : p.toNat < l.length := by omega
  unfold itD
  rw [List.getElem?_map, List.getD_eq_getElem?_getD, List.getElem?_eq_getElem h2]
  rfl
/-- what check_rows asks -/
def rowsOk (n : Nat) (L : List Lm) (a : Int) : Prop := n ≤ 60 ∧ L.length ≤ 60 ∧ (1 ≤ a ∧ a ≤ 1000000000000000) ∧ UqL L
theorem uq_keys {L : List Lm} : UqL L ↔ (L.map fun l => [l.ch, l.gv]).Nodup := by
  have e : (L.map fun l => [l.ch, l.gv]) = (L.map fun l => (l.ch, l.gv)).map fun x => [x.1, x.2] := by rw [List.map_map]; rfl
  rw [e]
  refine ⟨fun h => ?_, fun h => ?_⟩
  · exact List.Pairwise.map _ (fun a b hab z => hab (by
      have z1 : a.1 = b.1 := by injection z
      have z2 : a.2 = b.2 := by injection z with _ z; injection z
      exact Prod.ext z1 z2)) h
  · exact List.Pairwise.of_map _ (fun a b hab z => hab (by rw [z])) h
theorem mci_up {w : Wy} (h : WyOk w) {a : Int} (ha : 0 ≤ a) : a ≤ mci w.t.b w.t.s a := by
  have h1 := h.b
  have h2 : 0 ≤ a * w.t.s := Int.mul_nonneg ha h.s.1
  unfold mci
  generalize a * w.t.s = z at h2 ⊢
  omega
theorem ldR_ge : ∀ {l : List Wy} (_ : ∀ w ∈ l, WyOk w) {a : Int}, 0 ≤ a → ∀ x ∈ ldR a l, a ≤ x
  | [], _, a, _, x, hx => by cases hx
  | w :: l, h, a, ha, x, hx => by
    have h1 := mci_up (h w List.mem_cons_self) ha
    rcases List.mem_cons.mp hx with rfl | hx
    · exact Int.le_refl _
    · exact Int.le_trans h1 (ldR_ge (fun v hv => h v (List.mem_cons_of_mem _ hv)) (Int.le_trans ha h1) x hx)
theorem mci_16 {w : Wy} (h : Wy16 w) {a : Int} (ha : 0 ≤ a) : mci w.t.b w.t.s a + 6 ≤ 2 * (a + 6) := by
  have h1 := h.b
  have h2 : a * w.t.s ≤ a * 399 := Int.mul_le_mul_of_nonneg_left h.s.2 ha
  unfold mci
  generalize a * w.t.s = z at h2 ⊢
  omega
theorem ldR_16 : ∀ {l : List Wy} (_ : ∀ w ∈ l, Wy16 w) {a : Int}, 0 ≤ a → ∀ x ∈ ldR a l, x + 6 ≤ (a + 6) * 2 ^ l.length
  | [], _, a, _, x, hx => by cases hx
  | w :: l, h, a, ha, x, hx => by
    have h0 := h w List.mem_cons_self
    have h1 := mci_up h0.ok ha
    have h2 := mci_16 h0 ha
    have hp : (0 : Int) < 2 ^ l.length := Int.pow_pos (by decide)
    have hp1 : (1 : Int) ≤ 2 ^ l.length := hp
    have e : (a + 6) * 2 ^ (l.length + 1) = (2 * (a + 6)) * 2 ^ l.length := by rw [Int.pow_succ, Int.mul_comm (2 ^ l.length) 2, ← Int.mul_assoc, Int.mul_comm (a + 6) 2]
    rw [List.length_cons, e]
    rcases List.mem_cons.mp hx with rfl | hx
    · have h3 : (2 * (x + 6)) * 1 ≤ (2 * (x + 6)) * 2 ^ l.length := Int.mul_le_mul_of_nonneg_left hp1 (by omega)
      omega
    · have h3 := ldR_16 (fun v hv => h v (List.mem_cons_of_mem _ hv)) (Int.le_trans ha h1) x hx
      have h4 : (mci w.t.b w.t.s a + 6) * 2 ^ l.length ≤ (2 * (a + 6)) * 2 ^ l.length := Int.mul_le_mul_of_nonneg_right h2 (Int.le_of_lt hp)
      omega
/-- all of a short row's loads are small -/
theorem ldR_small {l : List Wy} (h : ∀ w ∈ l, Wy16 w) {a : Int} (ha : 0 ≤ a ∧ a ≤ 1000) (hl : l.length ≤ 20) : ∀ x ∈ ldR a l, x ≤ 1000000000000000 := by
  intro x hx
  have h1 := ldR_16 h ha.1 x hx
  have h2 : (2 : Int) ^ l.length ≤ 2 ^ 20 := by
    have e : ((2 : Int) ^ l.length) = (((2 : Nat) ^ l.length : Nat) : Int) := by simp
    have e2 : ((2 : Int) ^ 20) = (((2 : Nat) ^ 20 : Nat) : Int) := by simp
    rw [e, e2]
    exact Int.ofNat_le.mpr (Nat.pow_le_pow_right (by decide) hl)
  have h3 : (a + 6) * 2 ^ l.length ≤ (a + 6) * 2 ^ 20 := Int.mul_le_mul_of_nonneg_left h2 (by omega)
  have e3 : ((2 : Int) ^ 20) = 1048576 := by decide
  rw [e3] at h3
  omega
theorem sma_lms (L : List Lm) (n : Nat) : SmA (n + 1) (lms L) := SmA.map (fun t => sm_lm t n) L
theorem lms_cons (x : Lm) (L : List Lm) : lms (x :: L) = lmD x :: lms L := rfl
theorem ot_yes {R : List Lm} {j : Nat} {m : Lm} {c g : Int} (hm : R[j]? = some m) (h : (decide (m.ch = c) && decide (m.gv = g)) = true) : woL (R.take (j + 1)) c g = woL (R.take j) c g := by
  unfold woL
  rw [take_snoc hm, List.filter_append, List.filter_cons_of_neg (by rw [show isL c g m = true from h]; decide)]
  exact List.append_nil _
theorem ot_no {R : List Lm} {j : Nat} {m : Lm} {c g : Int} (hm : R[j]? = some m) (h : (decide (m.ch = c) && decide (m.gv = g)) = false) : woL (R.take (j + 1)) c g = woL (R.take j) c g ++ [m] := by
  unfold woL
  rw [take_snoc hm, List.filter_append, List.filter_cons_of_pos (by rw [show isL c g m = false from h]; rfl)]
  rfl
def surD : Option Lm → Int
  | none => 0
  | some m => m.lo
def belD : Option Lm → D
  | none => .none
  | some m => beD m.be
/-- the law's learning, after k ways -/
def lrn (L : List Lm) (l : List Wy) (xs : List Int) (p : Nat) (b : Int) (k : Nat) : List Lm := if k ≤ p then crd L l xs k else stpF (crd L l xs p) (l.getD p dWy) b
theorem lrn_le {L : List Lm} {l : List Wy} {xs : List Int} {p k : Nat} {b : Int} (h : k ≤ p) : lrn L l xs p b k = crd L l xs k := if_pos h
theorem lrn_gt {L : List Lm} {l : List Wy} {xs : List Int} {p : Nat} {b : Int} : lrn L l xs p b (p + 1) = stpF (crd L l xs p) (l.getD p dWy) b := if_neg (by omega)
theorem mx0 {x : Int} (h : 0 ≤ x) : (if x > 0 then x else 0) = x := by split <;> omega
def extL (x : Int) (L : List Lm) (ws : List Wy) : List Lm := ws.foldl (fun L w => limS L ⟨w.ch, w.gv, x, none⟩) L
theorem getD_nn {xs : List Int} (h : ∀ x ∈ xs, 0 ≤ x) (i : Nat) : 0 ≤ xs.getD i 0 := by
  rw [List.getD_eq_getElem?_getD]
  cases e : xs[i]? with
  | none => exact Int.le_refl _
  | some x => exact h x (List.mem_of_getElem? e)
theorem extL_uq (x : Int) : ∀ {ws : List Wy} {L : List Lm}, UqL L → UqL (extL x L ws)
  | [], _, h => h
  | w :: ws, _, h => extL_uq x (ws := ws) (limS_uq h)
theorem extL_len (x : Int) : ∀ (ws : List Wy) (L : List Lm), (extL x L ws).length ≤ L.length + ws.length
  | [], _ => Nat.le_refl _
  | w :: ws, L => by
    have h1 := extL_len x ws (limS L ⟨w.ch, w.gv, x, none⟩)
    have h2 := limS_len L ⟨w.ch, w.gv, x, none⟩
    show (extL x (limS L ⟨w.ch, w.gv, x, none⟩) ws).length ≤ _
    rw [List.length_cons]
    omega
theorem ext_yes {L : List Lm} {w : Wy} {x : Int} {f : Lm → D} (h : decide ((((L.filter (isL w.ch w.gv)).map f).length : Int) = 0) = true) : limS L ⟨w.ch, w.gv, x, none⟩ = L ++ [⟨w.ch, w.gv, x, none⟩] := by
  have h := of_decide_eq_true h
  rw [List.length_map] at h
  unfold limS
  rw [if_pos h]
theorem ext_no {L : List Lm} {w : Wy} {x : Int} {f : Lm → D} (h : decide ((((L.filter (isL w.ch w.gv)).map f).length : Int) = 0) = false) : limS L ⟨w.ch, w.gv, x, none⟩ = L := by
  have h := of_decide_eq_false h
  rw [List.length_map] at h
  unfold limS
  rw [if_neg h]
theorem extL_snoc (x : Int) (L : List Lm) (ws : List Wy) (w : Wy) : extL x L (ws ++ [w]) = limS (extL x L ws) ⟨w.ch, w.gv, x, none⟩ := by
  unfold extL
  rw [List.foldl_append]
  rfl
end Tp

namespace Tp
open PySem L2
def bad (w : Wy) (a : Int) (l : Lm) : Bool := isL w.ch w.gv l && match l.be with
  | none => false
  | some b => decide (b ≤ a)
def carr (w : Wy) (a : Int) (L : List Lm) : Bool := if w.mo < a then false else !(L.any (bad w a))
theorem any_hit {α : Type} {p : α → Bool} {L : List α} {i : Nat} {x : α} (h : L[i]? = some x) (hp : p x = true) : L.any p = true := List.any_eq_true.mpr ⟨x, List.mem_of_getElem? h, hp⟩
theorem uq_any {w : Wy} {a : Int} : ∀ {L : List Lm}, UqL L → L.any (bad w a) = match lmAt L w.ch w.gv with
    | none => false
    | some l => match l.be with
      | none => false
      | some b => decide (b ≤ a)
  | [], _ => rfl
  | l :: L, h => by
    obtain ⟨h1, h2⟩ := List.nodup_cons.mp h
    have ih := uq_any (w := w) (a := a) h2
    rw [List.any_cons]
    cases e : isL w.ch w.gv l with
    | true =>
      have no : L.any (bad w a) = false := by
        rw [List.any_eq_false]
        intro x hx z
        unfold bad at z
        rw [Bool.and_eq_true] at z
        refine h1 (List.mem_map.mpr ⟨x, hx, ?_⟩)
        have z1 := z.1
        unfold isL at z1 e
        rw [Bool.and_eq_true] at z1 e
        show (x.ch, x.gv) = (l.ch, l.gv)
        rw [of_decide_eq_true z1.1, of_decide_eq_true z1.2, of_decide_eq_true e.1, of_decide_eq_true e.2]
      unfold lmAt
      rw [no, Bool.or_false, List.find?_cons, e]
      unfold bad
      rw [e, Bool.true_and]
    | false =>
      have eb : bad w a l = false := by unfold bad; rw [e, Bool.false_and]
      rw [eb, Bool.false_or, ih]
      unfold lmAt
      rw [List.find?_cons, e]
theorem carr_is {w : Wy} {a : Int} {L : List Lm} (h : UqL L) : carr w a L = mayC w a (lmAt L w.ch w.gv) := by
  unfold carr mayC
  split
  · rfl
  · rw [uq_any h]
    cases lmAt L w.ch w.gv with
    | none => rfl
    | some l =>
      cases hb : l.be with
      | none => simp [hb]
      | some b =>
        simp only [hb]
        by_cases z : b ≤ a
        · have z2 : ¬ a < b := by omega
          simp [z, z2]
        · have z2 : a < b := by omega
          simp [z, z2]
end Tp

namespace Tp
open PySem L2
/-! dicts from ints -/
section
variable {β : Type} {f : β → D} {dv : β}
def gnv (f : β → D) (m : List (Int × β)) : List (Key × D) := m.map fun x => (Sum.inl x.1, f x.2)
def lkG (m : List (Int × β)) (k : Int) : Option β := (m.find? fun x => decide (x.1 = k)).map (·.2)
def putG (m : List (Int × β)) (k : Int) (v : β) : List (Int × β) := if (m.any fun x => decide (x.1 = k)) = true then m.map (fun x => if x.1 = k then (x.1, v) else x) else m ++ [(k, v)]
theorem gnv_len (m : List (Int × β)) : (gnv f m).length = m.length := List.length_map _
theorem lk_gnv (k : Int) : ∀ m : List (Int × β), lkK (gnv f m) (Sum.inl k) = (lkG m k).map f
  | [] => rfl
  | (a, b) :: m => by
    have ih := lk_gnv k m
    unfold gnv at ih ⊢
    unfold lkG at ih ⊢
    rw [List.map_cons, List.find?_cons]
    unfold lkK
    by_cases e : a = k
    · subst e; rw [if_pos rfl, decide_eq_true rfl]; rfl
    · rw [if_neg (fun z => e (Sum.inl.inj z)), decide_eq_false e]; exact ih
theorem lk_some (k : Int) (m : List (Int × β)) : (lkK (gnv f m) (Sum.inl k)).isSome = (lkG m k).isSome := by rw [lk_gnv, Option.isSome_map]
theorem lk_get (dv : β) {m : List (Int × β)} {k : Int} (h : (lkK (gnv f m) (Sum.inl k)).isSome = true) : lkK (gnv f m) (Sum.inl k) = some (f ((lkG m k).getD dv)) := by
  rw [lk_some] at h
  rw [lk_gnv]
  cases e : lkG m k with
  | none => rw [e] at h; cases h
  | some x => rfl
theorem lk_getN (dv : β) {m : List (Int × β)} {k : Int} (h : (!(lkK (gnv f m) (Sum.inl k)).isSome) = false) : lkK (gnv f m) (Sum.inl k) = some (f ((lkG m k).getD dv)) := lk_get dv (by rw [Bool.not_eq_false'] at h; exact h)
theorem any_gnv (k : Int) : ∀ m : List (Int × β), ((gnv f m).any fun x => decide (x.1 = (Sum.inl k : Key))) = m.any fun x => decide (x.1 = k)
  | [] => rfl
  | (a, b) :: m => by
    show (decide ((Sum.inl a : Key) = Sum.inl k) || (gnv f m).any fun x => decide (x.1 = (Sum.inl k : Key))) = (decide (a = k) || m.any fun x => decide (x.1 = k))
    rw [any_gnv k m]
    congr 1
    exact dec_eqv ⟨fun z => Sum.inl.inj z, fun z => congrArg Sum.inl z⟩
theorem putD_gnv (m : List (Int × β)) (k : Int) (v : β) : putD (gnv f m) (Sum.inl k) (f v) = gnv f (putG m k v) := by
  unfold putD putG
  rw [any_gnv]
  split
  · unfold gnv
    rw [List.map_map, List.map_map]
    refine List.map_congr_left fun x _ => ?_
    show (if (Sum.inl x.1 : Key) = Sum.inl k then ((Sum.inl x.1 : Key), f v) else (Sum.inl x.1, f x.2)) = (fun x : Int × β => ((Sum.inl x.1 : Key), f x.2)) (if x.1 = k then (x.1, v) else x)
    by_cases e : x.1 = k
    · rw [if_pos (congrArg Sum.inl e), if_pos e]
    · rw [if_neg (fun z => e (Sum.inl.inj z)), if_neg e]
  · unfold gnv
    rw [List.map_append]; rfl
theorem putG_len (m : List (Int × β)) (k : Int) (v : β) : (putG m k v).length ≤ m.length + 1 := by
  unfold putG
  split
  · rw [List.length_map]; omega
  · rw [List.length_append]; exact Nat.le_refl _
theorem find_repl (k j : Int) (v : β) : ∀ m : List (Int × β), lkG (m.map fun x => if x.1 = k then (x.1, v) else x) j = if j = k then (lkG m j).map (fun _ => v) else lkG m j
  | [] => by split <;> rfl
  | (a, b) :: m => by
    have ih := find_repl k j v m
    unfold lkG at ih ⊢
    rw [List.map_cons, List.find?_cons, List.find?_cons]
    by_cases e : a = k
    · subst e
      rw [if_pos rfl]
      by_cases e2 : a = j
      · subst e2; rw [if_pos rfl, decide_eq_true rfl]; rfl
      · rw [decide_eq_false e2]; exact ih
    · rw [if_neg e]
      by_cases e2 : a = j
      · subst e2; rw [if_neg e, decide_eq_true rfl]
      · rw [decide_eq_false e2]; exact ih
theorem lkG_put (m : List (Int × β)) (k j : Int) (v : β) : lkG (putG m k v) j = if j = k then some v else lkG m j := by
  have key : (m.any fun x => decide (x.1 = k)) = (lkG m k).isSome := by
    unfold lkG
    rw [Option.isSome_map, Bool.eq_iff_iff, List.any_eq_true, List.find?_isSome]
  unfold putG
  split
  · rename_i c
    rw [find_repl]
    by_cases e : j = k
    · subst e
      rw [if_pos rfl, if_pos rfl]
      rw [key] at c
      cases e2 : lkG m j with
      | none => rw [e2] at c; cases c
      | some x => rfl
    · rw [if_neg e, if_neg e]
  · rename_i c
    by_cases e : j = k
    · subst e
      rw [if_pos rfl]
      have hn : lkG m j = none := by
        cases e2 : lkG m j with
        | none => rfl
        | some x => rw [key, e2] at c; exact absurd rfl c
      unfold lkG at hn ⊢
      rw [List.find?_append]
      cases e3 : m.find? fun x => decide (x.1 = j) with
      | none => simp
      | some x => rw [e3] at hn; cases hn
    · rw [if_neg e]
      unfold lkG
      rw [List.find?_append]
      cases e3 : m.find? fun x => decide (x.1 = j) with
      | none =>
        have : decide (k = j) = false := decide_eq_false fun z => e z.symm
        simp [List.find?_cons, this]
      | some x => rfl
theorem lkG_mem {m : List (Int × β)} {k : Int} {v : β} (h : lkG m k = some v) : (k, v) ∈ m := by
  unfold lkG at h
  cases e : m.find? fun x => decide (x.1 = k) with
  | none => rw [e] at h; cases h
  | some x =>
    rw [e] at h
    cases h
    have h1 := List.mem_of_find?_eq_some e
    have h2 : x.1 = k := of_decide_eq_true (show decide (x.1 = k) = true from List.find?_some (p := fun x : Int × β => decide (x.1 = k)) e)
    rw [← h2]; exact h1
theorem putG_mem {m : List (Int × β)} {k : Int} {v : β} {x : Int × β} (h : x ∈ putG m k v) : x ∈ m ∨ x.2 = v := by
  unfold putG at h
  split at h
  · obtain ⟨y, hy, e⟩ := List.mem_map.mp h
    split at e
    · exact .inr (by rw [← e])
    · exact .inl (e ▸ hy)
  · rcases List.mem_append.mp h with h | h
    · exact .inl h
    · exact .inr (by rw [List.mem_singleton.mp h])
end
/-! the search -/
abbrev En := Int × List Wy
abbrev Kn := List (Int × En)
def dEn : En := (0, [])
def enD (x : En) : D := .tuple [.int x.1, .tuple (wys x.2)]
def obD : Option En → D
  | none => .none
  | some x => enD x
def orD : Option (List Wy) → D
  | none => .none
  | some l => .tuple (wys l)
def hitB (w : Wy) (gv : Int) (m : Kn) : Bool := decide (w.gv = gv) && (lkG m w.tk).isSome
def ent (w : Wy) (m : Kn) : En := (lkG m w.tk).getD dEn
def bestS (L : List Lm) (gv : Int) (m : Kn) (b : Option En) (w : Wy) : Option En :=
  if hitB w gv m = true then
    if mayC w (ent w m).1 (lmAt L w.ch w.gv) = true then
      match b with
      | none => some (mci w.t.b w.t.s (ent w m).1, w :: (ent w m).2)
      | some x => if mci w.t.b w.t.s (ent w m).1 < x.1 then some (mci w.t.b w.t.s (ent w m).1, w :: (ent w m).2) else some x
    else b
  else b
def bestF (ws : List Wy) (L : List Lm) (gv : Int) (m : Kn) : Option En := ws.foldl (bestS L gv m) none
def betB (m : Kn) (gv : Int) (b : En) : Bool := match lkG m gv with
  | none => true
  | some y => decide (b.1 < y.1)
def nrP (ws : List Wy) (L : List Lm) (m m1 : Kn) (gv : Int) : Kn := match bestF ws L gv m with
  | none => m1
  | some b => if betB m gv b = true then putG m1 gv b else m1
def nrS (ws : List Wy) (L : List Lm) (src : Int) (m : Kn) (st : Kn × List Int) (w : Wy) : Kn × List Int :=
  if (!decide (w.gv = src) && !decide (w.gv ∈ st.2)) = true then (nrP ws L m st.1 w.gv, w.gv :: st.2) else st
def nrF (ws : List Wy) (L : List Lm) (src : Int) (m : Kn) (vs : List Wy) : Kn × List Int := vs.foldl (nrS ws L src m) (m, [])
def nextR (ws : List Wy) (L : List Lm) (src : Int) (m : Kn) : Kn := (nrF ws L src m ws).1
def knR (ws : List Wy) (L : List Lm) (src tgt a : Int) : Nat → Kn
  | 0 => [(tgt, (a, []))]
  | n + 1 => nextR ws L src (knR ws L src tgt a n)
def lastS (L : List Lm) (src : Int) (m : Kn) (st : Option (List Wy) × Int) (w : Wy) : Option (List Wy) × Int :=
  if hitB w src m = true then
    if mayC w (ent w m).1 (lmAt L w.ch w.gv) = true then
      match st.1 with
      | none => (some (w :: (ent w m).2), (ent w m).1)
      | some _ => if (ent w m).1 < st.2 then (some (w :: (ent w m).2), (ent w m).1) else st
    else st
  else st
def lastF (vs : List Wy) (L : List Lm) (src : Int) (m : Kn) : Option (List Wy) × Int := vs.foldl (lastS L src m) (none, 0)
def cheap (ws : List Wy) (L : List Lm) (src tgt a hops : Int) : Option (List Wy) := if src = tgt then none else (lastF ws L src (knR ws L src tgt a (hops - 1).toNat)).1
theorem hit_is {w : Wy} {gv : Int} {m : Kn} {v : Bool} (h : (decide (w.gv = gv) && (lkK (gnv enD m) (Sum.inl w.tk)).isSome) = v) : hitB w gv m = v := by
  rw [lk_some] at h; exact h
theorem bs_no {L : List Lm} {gv : Int} {m : Kn} {b : Option En} {w : Wy} (h : hitB w gv m = false) : bestS L gv m b w = b := if_neg (by rw [h]; decide)
theorem bs_nc {L : List Lm} {gv : Int} {m : Kn} {b : Option En} {w : Wy} (h : hitB w gv m = true) (h2 : mayC w (ent w m).1 (lmAt L w.ch w.gv) = false) : bestS L gv m b w = b := by
  unfold bestS; rw [if_pos h, if_neg (by rw [h2]; decide)]
theorem bs_new0 {L : List Lm} {gv : Int} {m : Kn} {w : Wy} (h : hitB w gv m = true) (h2 : mayC w (ent w m).1 (lmAt L w.ch w.gv) = true) : bestS L gv m none w = some (mci w.t.b w.t.s (ent w m).1, w :: (ent w m).2) := by
  unfold bestS; rw [if_pos h, if_pos h2]
theorem bs_new {L : List Lm} {gv : Int} {m : Kn} {w : Wy} {x : En} (h : hitB w gv m = true) (h2 : mayC w (ent w m).1 (lmAt L w.ch w.gv) = true) (h3 : decide (mci w.t.b w.t.s (ent w m).1 < x.1) = true) : bestS L gv m (some x) w = some (mci w.t.b w.t.s (ent w m).1, w :: (ent w m).2) := by
  unfold bestS; rw [if_pos h, if_pos h2]; exact if_pos (of_decide_eq_true h3)
theorem bs_old {L : List Lm} {gv : Int} {m : Kn} {w : Wy} {x : En} (h : hitB w gv m = true) (h2 : mayC w (ent w m).1 (lmAt L w.ch w.gv) = true) (h3 : decide (mci w.t.b w.t.s (ent w m).1 < x.1) = false) : bestS L gv m (some x) w = some x := by
  unfold bestS; rw [if_pos h, if_pos h2]; exact if_neg (of_decide_eq_false h3)
theorem ls_no {L : List Lm} {src : Int} {m : Kn} {st : Option (List Wy) × Int} {w : Wy} (h : hitB w src m = false) : lastS L src m st w = st := if_neg (by rw [h]; decide)
theorem ls_nc {L : List Lm} {src : Int} {m : Kn} {st : Option (List Wy) × Int} {w : Wy} (h : hitB w src m = true) (h2 : mayC w (ent w m).1 (lmAt L w.ch w.gv) = false) : lastS L src m st w = st := by
  unfold lastS; rw [if_pos h, if_neg (by rw [h2]; decide)]
theorem ls_new0 {L : List Lm} {src z : Int} {m : Kn} {w : Wy} (h : hitB w src m = true) (h2 : mayC w (ent w m).1 (lmAt L w.ch w.gv) = true) : lastS L src m (none, z) w = (some (w :: (ent w m).2), (ent w m).1) := by
  unfold lastS; rw [if_pos h, if_pos h2]
theorem ls_new {L : List Lm} {src z : Int} {m : Kn} {w : Wy} {l : List Wy} (h : hitB w src m = true) (h2 : mayC w (ent w m).1 (lmAt L w.ch w.gv) = true) (h3 : (ent w m).1 < z) : lastS L src m (some l, z) w = (some (w :: (ent w m).2), (ent w m).1) := by
  unfold lastS; rw [if_pos h, if_pos h2]; exact if_pos h3
theorem ls_old {L : List Lm} {src z : Int} {m : Kn} {w : Wy} {l : List Wy} (h : hitB w src m = true) (h2 : mayC w (ent w m).1 (lmAt L w.ch w.gv) = true) (h3 : ¬ (ent w m).1 < z) : lastS L src m (some l, z) w = (some l, z) := by
  unfold lastS; rw [if_pos h, if_pos h2]; exact if_neg h3
theorem nrF_snoc {ws : List Wy} {L : List Lm} {src : Int} {m : Kn} {vs : List Wy} {w : Wy} {i : Nat} (h : vs[i]? = some w) : nrF ws L src m (vs.take (i + 1)) = nrS ws L src m (nrF ws L src m (vs.take i)) w := fold_take h
theorem nrP_len (ws : List Wy) (L : List Lm) (m m1 : Kn) (gv : Int) : (nrP ws L m m1 gv).length ≤ m1.length + 1 := by
  unfold nrP
  cases bestF ws L gv m with
  | none => exact Nat.le_succ _
  | some b =>
    show (if betB m gv b = true then putG m1 gv b else m1).length ≤ _
    split
    · exact putG_len _ _ _
    · exact Nat.le_succ _
theorem nrF_len (ws : List Wy) (L : List Lm) (src : Int) (m : Kn) : ∀ (vs : List Wy) (st : Kn × List Int), (vs.foldl (nrS ws L src m) st).1.length ≤ st.1.length + vs.length ∧ (vs.foldl (nrS ws L src m) st).2.length ≤ st.2.length + vs.length
  | [], st => ⟨Nat.le_refl _, Nat.le_refl _⟩
  | w :: vs, st => by
    have ih := nrF_len ws L src m vs (nrS ws L src m st w)
    have h1 := nrP_len ws L m st.1 w.gv
    have h2 : (nrS ws L src m st w).1.length ≤ st.1.length + 1 ∧ (nrS ws L src m st w).2.length ≤ st.2.length + 1 := by
      unfold nrS
      split
      · exact ⟨h1, Nat.le_refl _⟩
      · exact ⟨Nat.le_succ _, Nat.le_succ _⟩
    rw [List.foldl_cons, List.length_cons]
    exact ⟨by omega, by omega⟩
theorem knR_len (ws : List Wy) (L : List Lm) (src tgt a : Int) : ∀ n, (knR ws L src tgt a n).length ≤ 1 + n * ws.length
  | 0 => by simp [knR]
  | n + 1 => by
    have ih := knR_len ws L src tgt a n
    have h := (nrF_len ws L src (knR ws L src tgt a n) ws (knR ws L src tgt a n, [])).1
    show (nextR ws L src (knR ws L src tgt a n)).length ≤ _
    unfold nextR nrF
    rw [Nat.succ_mul]
    simp only at h
    omega
/-- what is kept of each entry, round by round -/
structure KnOk (ws : List Wy) (a : Int) (n : Nat) (e : En) : Prop where
  am : e.1 = ldE a e.2.reverse
  ln : e.2.length ≤ n
  sub : ∀ w ∈ e.2, w ∈ ws
theorem KnOk.up {ws : List Wy} {a : Int} {n n' : Nat} {e : En} (h : KnOk ws a n e) (l : n ≤ n') : KnOk ws a n' e := ⟨h.am, Nat.le_trans h.ln l, h.sub⟩
theorem KnOk.next {ws : List Wy} {a : Int} {n : Nat} {e : En} {w : Wy} (h : KnOk ws a n e) (hw : w ∈ ws) : KnOk ws a (n + 1) (mci w.t.b w.t.s e.1, w :: e.2) :=
  ⟨by show mci _ _ _ = ldE a (w :: e.2).reverse; rw [List.reverse_cons, ldE_snoc, ← h.am], Nat.succ_le_succ h.ln, fun v hv => (List.mem_cons.mp hv).elim (fun z => z ▸ hw) (h.sub v)⟩
theorem ent_mem {m : Kn} {gv : Int} {w : Wy} (h : hitB w gv m = true) : (w.tk, ent w m) ∈ m ∧ lkG m w.tk = some (ent w m) ∧ w.gv = gv := by
  unfold hitB at h
  rw [Bool.and_eq_true] at h
  unfold ent
  cases e : lkG m w.tk with
  | none => rw [e] at h; exact absurd h.2 (by simp)
  | some x => exact ⟨lkG_mem e, rfl, of_decide_eq_true h.1⟩
/-- what the best way is: an old entry with a way put ahead -/
theorem best_from {L : List Lm} {gv : Int} {m : Kn} : ∀ (vs : List Wy) (b : Option En) (r : En), vs.foldl (bestS L gv m) b = some r → b = some r ∨ ∃ w ∈ vs, hitB w gv m = true ∧ mayC w (ent w m).1 (lmAt L w.ch w.gv) = true ∧ r = (mci w.t.b w.t.s (ent w m).1, w :: (ent w m).2)
  | [], b, r, h => .inl h
  | w :: vs, b, r, h => by
    rw [List.foldl_cons] at h
    rcases best_from vs _ r h with h | ⟨v, hv, q⟩
    · cases e1 : hitB w gv m with
      | false => rw [bs_no e1] at h; exact .inl h
      | true =>
        cases e2 : mayC w (ent w m).1 (lmAt L w.ch w.gv) with
        | false => rw [bs_nc e1 e2] at h; exact .inl h
        | true =>
          cases b with
          | none => rw [bs_new0 e1 e2] at h; exact .inr ⟨w, List.mem_cons_self, e1, e2, (Option.some.inj h).symm⟩
          | some x =>
            cases e3 : decide (mci w.t.b w.t.s (ent w m).1 < x.1) with
            | true => rw [bs_new e1 e2 e3] at h; exact .inr ⟨w, List.mem_cons_self, e1, e2, (Option.some.inj h).symm⟩
            | false => rw [bs_old e1 e2 e3] at h; exact .inl h
    · exact .inr ⟨v, List.mem_cons_of_mem _ hv, q⟩
theorem nr_mem {ws : List Wy} {L : List Lm} {src : Int} {m : Kn} : ∀ (vs : List Wy) (st : Kn × List Int) (x : Int × En), x ∈ (vs.foldl (nrS ws L src m) st).1 → x ∈ st.1 ∨ ∃ gv, gv ≠ src ∧ bestF ws L gv m = some x.2
  | [], st, x, h => .inl h
  | w :: vs, st, x, h => by
    rw [List.foldl_cons] at h
    rcases nr_mem vs _ x h with h | h
    · unfold nrS at h
      split at h
      · rename_i c
        rw [Bool.and_eq_true, Bool.not_eq_true', decide_eq_false_iff_not] at c
        unfold nrP at h
        cases e : bestF ws L w.gv m with
        | none => rw [e] at h; exact .inl h
        | some b =>
          rw [e] at h
          have h : x ∈ (if betB m w.gv b = true then putG st.1 w.gv b else st.1) := h
          split at h
          · rcases putG_mem h with h | h
            · exact .inl h
            · exact .inr ⟨w.gv, c.1, by rw [h]; exact e⟩
          · exact .inl h
      · exact .inl h
    · exact .inr h
theorem knR_ok {ws : List Wy} {L : List Lm} {src tgt a : Int} : ∀ (n : Nat) (x : Int × En), x ∈ knR ws L src tgt a n → KnOk ws a n x.2
  | 0, x, h => by
    cases List.mem_singleton.mp h
    exact ⟨rfl, Nat.le_refl _, fun w hw => nomatch hw⟩
  | n + 1, x, h => by
    rcases nr_mem ws _ x h with h | ⟨gv, _, h⟩
    · exact (knR_ok n x h).up (Nat.le_succ _)
    · rcases best_from ws none _ h with h | ⟨w, hw, e1, e2, e3⟩
      · cases h
      · rw [e3]
        exact (knR_ok n _ (ent_mem e1).1).next hw
theorem last_from {L : List Lm} {src : Int} {m : Kn} : ∀ (vs : List Wy) (st : Option (List Wy) × Int) (r : List Wy), (vs.foldl (lastS L src m) st).1 = some r → st.1 = some r ∧ (vs.foldl (lastS L src m) st).2 = st.2 ∨ ∃ w ∈ vs, hitB w src m = true ∧ mayC w (ent w m).1 (lmAt L w.ch w.gv) = true ∧ r = w :: (ent w m).2 ∧ (vs.foldl (lastS L src m) st).2 = (ent w m).1
  | [], st, r, h => .inl ⟨h, rfl⟩
  | w :: vs, (o, z), r, h => by
    rw [List.foldl_cons] at h ⊢
    rcases last_from vs _ r h with ⟨h, h'⟩ | ⟨v, hv, q⟩
    · cases e1 : hitB w src m with
      | false => rw [ls_no e1] at h h' ⊢; exact .inl ⟨h, h'⟩
      | true =>
        cases e2 : mayC w (ent w m).1 (lmAt L w.ch w.gv) with
        | false => rw [ls_nc e1 e2] at h h' ⊢; exact .inl ⟨h, h'⟩
        | true =>
          cases o with
          | none => rw [ls_new0 e1 e2] at h h' ⊢; exact .inr ⟨w, List.mem_cons_self, e1, e2, (Option.some.inj h).symm, h'⟩
          | some l =>
            by_cases e3 : (ent w m).1 < z
            · rw [ls_new e1 e2 e3] at h h' ⊢; exact .inr ⟨w, List.mem_cons_self, e1, e2, (Option.some.inj h).symm, h'⟩
            · rw [ls_old e1 e2 e3] at h h' ⊢; exact .inl ⟨h, h'⟩
    · exact .inr ⟨v, List.mem_cons_of_mem _ hv, q⟩
/-- a route that is found -/
theorem cheap_is {ws : List Wy} {L : List Lm} {src tgt a hops : Int} {rt : List Wy} (h : cheap ws L src tgt a hops = some rt) : src ≠ tgt ∧ ∃ w ∈ ws, ∃ e : En, lkG (knR ws L src tgt a (hops - 1).toNat) w.tk = some e ∧ KnOk ws a (hops - 1).toNat e ∧ w.gv = src ∧ mayC w e.1 (lmAt L w.ch w.gv) = true ∧ rt = w :: e.2 := by
  unfold cheap at h
  split at h
  · cases h
  · rename_i ne
    refine ⟨ne, ?_⟩
    rcases last_from ws _ rt h with ⟨h, _⟩ | ⟨w, hw, e1, e2, e3, _⟩
    · cases h
    · obtain ⟨q1, q2, q3⟩ := ent_mem e1
      exact ⟨w, hw, _, q2, knR_ok _ _ q1, q3, e2, e3⟩
theorem mayC_le {w : Wy} {a : Int} {o : Option Lm} (h : mayC w a o = true) : a ≤ w.mo := by
  unfold mayC at h
  split at h
  · cases h
  · omega
theorem ls_all {L : List Lm} {src z : Int} {m : Kn} {w : Wy} {o : Option (List Wy)} (h : hitB w src m = true) (h2 : (mayC w (ent w m).1 (lmAt L w.ch w.gv) && (o.isNone || decide ((ent w m).1 < z))) = true) : lastS L src m (o, z) w = (some (w :: (ent w m).2), (ent w m).1) := by
  rw [Bool.and_eq_true] at h2
  cases o with
  | none => exact ls_new0 h h2.1
  | some l => exact ls_new h h2.1 (of_decide_eq_true h2.2)
theorem ls_keep {L : List Lm} {src z : Int} {m : Kn} {w : Wy} {o : Option (List Wy)} (h : hitB w src m = true) (h2 : (mayC w (ent w m).1 (lmAt L w.ch w.gv) && (o.isNone || decide ((ent w m).1 < z))) = false) : lastS L src m (o, z) w = (o, z) := by
  cases e : mayC w (ent w m).1 (lmAt L w.ch w.gv) with
  | false => exact ls_nc h e
  | true =>
    rw [e, Bool.true_and] at h2
    cases o with
    | none => cases h2
    | some l => exact ls_old h e (of_decide_eq_false h2)
theorem cut_wys1 (l : List Wy) : PyData.tuple (cutD (wys l) (some 1) none) = .tuple (wys (l.drop 1)) := by
  rw [cut_from (by decide)]
  unfold wys
  rw [List.map_drop]
  rfl
def reqOk (n : Nat) (L : List Lm) (a hops : Int) : Prop := rowsOk n L a ∧ 1 ≤ hops ∧ hops ≤ 12
theorem lastR_ldE (a dl : Int) : ∀ (l : List Wy), (lastR (a, dl) (l.map (·.t))).1 = ldE a l := by
  intro l
  have h : ∀ (l : List Wy) (x : Int × Int), (lastR x (l.map (·.t))).1 = ldE x.1 l := by
    intro l
    induction l with
    | nil => intro x; rfl
    | cons w l ih => intro x; exact ih (tstep w.t x)
  exact h l (a, dl)
def tlw (l : List Wy) : List Tl := (l.drop 1).map (·.t)
def fndD (o : Option (List Wy)) (a dl : Int) : D := match o with
  | none => .none
  | some rt => .tuple [.tuple (wys rt), .int ((ldR a rt.reverse).reverse.getD 0 0), .list (prs (rowsR (a, dl) (tlw rt).reverse).reverse)]
theorem tls_wy (l : List Wy) : (l.map fun w => tlD w.t) = tls (l.map (·.t)) := by unfold tls; rw [List.map_map]; rfl
theorem legs_in (l : List Wy) : PyData.list (((l.drop 1).filter fun _ => true).map fun w => tlD w.t) = .list (tls (tlw l)) := by
  rw [List.filter_eq_self.mpr (fun _ _ => rfl)]
  exact congrArg _ (tls_wy _)
theorem sent_le {ws : List Wy} {L : List Lm} {a dl : Int} {n : Nat} {w : Wy} {e : En} (ko : KnOk ws a n e) (hm : mayC w e.1 (lmAt L w.ch w.gv) = true) : (lastR (a, dl) (tlw (w :: e.2)).reverse).1 ≤ w.mo := by
  have h : (tlw (w :: e.2)).reverse = e.2.reverse.map (·.t) := by unfold tlw; rw [List.map_reverse]; rfl
  rw [h, lastR_ldE, ← ko.am]
  exact mayC_le hm
theorem nr_no {ws : List Wy} {L : List Lm} {src : Int} {m m1 : Kn} {S1 : List Int} {w : Wy} (h : (!decide (w.gv = src) && !decide (w.gv ∈ S1)) = false) : nrS ws L src m (m1, S1) w = (m1, S1) := if_neg (by rw [h]; decide)
theorem nr_yes {ws : List Wy} {L : List Lm} {src : Int} {m m1 : Kn} {S1 : List Int} {w : Wy} (h : (!decide (w.gv = src) && !decide (w.gv ∈ S1)) = true) : nrS ws L src m (m1, S1) w = (nrP ws L m m1 w.gv, w.gv :: S1) := if_pos h
theorem np_none {ws : List Wy} {L : List Lm} {m m1 : Kn} {gv : Int} (h : bestF ws L gv m = none) : nrP ws L m m1 gv = m1 := by unfold nrP; rw [h]
theorem bet_is {m : Kn} {gv : Int} {b : En} {v : Bool} (h : (!(lkK (gnv enD m) (Sum.inl gv)).isSome || decide (b.1 < ((lkG m gv).getD dEn).1)) = v) : betB m gv b = v := by
  rw [lk_some] at h
  unfold betB
  cases e : lkG m gv with
  | none => rw [e] at h; exact h
  | some y => rw [e] at h; exact h
theorem np_put {ws : List Wy} {L : List Lm} {m m1 : Kn} {gv : Int} {b : En} (h : bestF ws L gv m = some b) (h2 : betB m gv b = true) : nrP ws L m m1 gv = putG m1 gv b := by unfold nrP; rw [h]; exact if_pos h2
theorem np_keep {ws : List Wy} {L : List Lm} {m m1 : Kn} {gv : Int} {b : En} (h : bestF ws L gv m = some b) (h2 : betB m gv b = false) : nrP ws L m m1 gv = m1 := by unfold nrP; rw [h]; exact if_neg (by rw [h2]; decide)
end Tp

namespace Tp
open PySem L2
/-- what arrives at the first giver of a row of ways -/
def am (a : Int) (l : List Wy) : Int := ldE a l.reverse
theorem am_cons (a : Int) (w : Wy) (s : List Wy) : am a (w :: s) = mci w.t.b w.t.s (am a s) := by unfold am; rw [List.reverse_cons, ldE_snoc]
theorem am_ge {a : Int} (ha : 0 ≤ a) : ∀ {l : List Wy}, (∀ w ∈ l, WyOk w) → a ≤ am a l
  | [], _ => Int.le_refl _
  | w :: s, h => by
    rw [am_cons]
    have ih := am_ge ha (l := s) fun v hv => h v (List.mem_cons_of_mem _ hv)
    exact Int.le_trans ih (mci_up (h w List.mem_cons_self) (Int.le_trans ha ih))
theorem nr_lk {ws : List Wy} {L : List Lm} {src : Int} {m : Kn} : ∀ (vs : List Wy) (st : Kn × List Int), (∀ q, lkG st.1 q = lkG m q ∨ ∃ b, q ≠ src ∧ bestF ws L q m = some b ∧ betB m q b = true ∧ lkG st.1 q = some b) →
    ∀ q, lkG (vs.foldl (nrS ws L src m) st).1 q = lkG m q ∨ ∃ b, q ≠ src ∧ bestF ws L q m = some b ∧ betB m q b = true ∧ lkG (vs.foldl (nrS ws L src m) st).1 q = some b
  | [], st, h => h
  | w :: vs, st, h => by
    rw [List.foldl_cons]
    refine nr_lk vs _ fun q => ?_
    unfold nrS
    split
    · rename_i c
      rw [Bool.and_eq_true, Bool.not_eq_true', decide_eq_false_iff_not] at c
      show lkG (nrP ws L m st.1 w.gv) q = _ ∨ ∃ b, _ ∧ _ ∧ _ ∧ lkG (nrP ws L m st.1 w.gv) q = _
      unfold nrP
      cases e : bestF ws L w.gv m with
      | none => exact h q
      | some b =>
        show lkG (if betB m w.gv b = true then putG st.1 w.gv b else st.1) q = _ ∨ ∃ b', _ ∧ _ ∧ _ ∧ lkG (if betB m w.gv b = true then putG st.1 w.gv b else st.1) q = _
        split
        · rename_i hb
          rw [lkG_put]
          by_cases eq : q = w.gv
          · subst eq
            rw [if_pos rfl]
            exact .inr ⟨b, c.1, e, hb, rfl⟩
          · rw [if_neg eq]; exact h q
        · exact h q
    · exact h q
theorem next_lk (ws : List Wy) (L : List Lm) (src : Int) (m : Kn) (q : Int) : lkG (nextR ws L src m) q = lkG m q ∨ ∃ b, q ≠ src ∧ bestF ws L q m = some b ∧ betB m q b = true ∧ lkG (nextR ws L src m) q = some b :=
  nr_lk ws (m, []) (fun q => .inl rfl) q
theorem next_low {ws : List Wy} {L : List Lm} {src : Int} {m : Kn} {q : Int} {e : En} (h : lkG m q = some e) : ∃ e', lkG (nextR ws L src m) q = some e' ∧ e'.1 ≤ e.1 := by
  rcases next_lk ws L src m q with z | ⟨b, _, _, hb, z⟩
  · exact ⟨e, z.trans h, Int.le_refl _⟩
  · refine ⟨b, z, ?_⟩
    unfold betB at hb
    rw [h] at hb
    exact Int.le_of_lt (of_decide_eq_true hb)
/-- a path in the table: each way carries, and the table knows no more than the path at each stop -/
def Pg (L : List Lm) (tgt a : Int) (m : Kn) (p : Int) : List Wy → Prop
  | [] => p = tgt
  | w :: s => w.gv = p ∧ mayC w (am a s) (lmAt L w.ch w.gv) = true ∧ (∃ e, lkG m w.tk = some e ∧ e.1 ≤ am a s) ∧ Pg L tgt a m w.tk s
theorem Pg.next {L : List Lm} {tgt a : Int} {m m' : Kn} (h : ∀ q e, lkG m q = some e → ∃ e', lkG m' q = some e' ∧ e'.1 ≤ e.1) : ∀ {l : List Wy} {p : Int}, Pg L tgt a m p l → Pg L tgt a m' p l
  | [], _, z => z
  | w :: s, _, ⟨h1, h2, ⟨e, h3, h4⟩, h5⟩ => by
    obtain ⟨e', q1, q2⟩ := h _ e h3
    exact ⟨h1, h2, ⟨e', q1, Int.le_trans q2 h4⟩, Pg.next h h5⟩
theorem Pg.low {L : List Lm} {tgt a : Int} {m : Kn} (ha : 0 ≤ a) : ∀ {l : List Wy} {p : Int} {e : En}, (∀ w ∈ l, WyOk w) → Pg L tgt a m p l → lkG m p = some e → e.1 ≤ am a l → ∀ x ∈ l.map (·.gv) ++ [tgt], ∃ ex, lkG m x = some ex ∧ ex.1 ≤ am a l
  | [], p, e, _, z, he, hl, x, hx => by
    have z : p = tgt := z
    rw [List.map_nil, List.nil_append, List.mem_singleton] at hx
    exact ⟨e, by rw [hx, ← z]; exact he, hl⟩
  | w :: s, p, e, hw, ⟨h1, h2, ⟨e', h3, h4⟩, h5⟩, he, hl, x, hx => by
    rw [List.map_cons, List.cons_append] at hx
    rcases List.mem_cons.mp hx with rfl | hx
    · exact ⟨e, by rw [h1]; exact he, hl⟩
    · have hs : ∀ v ∈ s, WyOk v := fun v hv => hw v (List.mem_cons_of_mem _ hv)
      obtain ⟨ex, q1, q2⟩ := Pg.low ha hs h5 h3 h4 x hx
      refine ⟨ex, q1, Int.le_trans q2 ?_⟩
      rw [am_cons]
      exact mci_up (hw w List.mem_cons_self) (Int.le_trans ha (am_ge ha hs))
structure KnG (ws : List Wy) (L : List Lm) (src tgt a : Int) (m : Kn) : Prop where
  tg : lkG m tgt = some (a, [])
  am : ∀ q e, lkG m q = some e → e.1 = am a e.2 ∧ ∀ w ∈ e.2, w ∈ ws
  pg : ∀ q e, lkG m q = some e → Pg L tgt a m q e.2
  nd : ∀ q e, lkG m q = some e → (e.2.map (·.gv) ++ [tgt]).Nodup
  ns : ∀ q e, lkG m q = some e → ∀ w ∈ e.2, w.gv ≠ src
theorem KnG.next {ws : List Wy} {L : List Lm} {src tgt a : Int} {m : Kn} (hw : ∀ w ∈ ws, WyOk w) (ha : 0 ≤ a) (h : KnG ws L src tgt a m) : KnG ws L src tgt a (nextR ws L src m) := by
  have low : ∀ q e, lkG m q = some e → ∃ e', lkG (nextR ws L src m) q = some e' ∧ e'.1 ≤ e.1 := fun q e he => next_low he
  -- what a new entry is
  have new : ∀ q b, q ≠ src → bestF ws L q m = some b → betB m q b = true → ∃ w ∈ ws, ∃ e, w.gv = q ∧ lkG m w.tk = some e ∧ mayC w e.1 (lmAt L w.ch w.gv) = true ∧ b = (mci w.t.b w.t.s e.1, w :: e.2) ∧ q ∉ e.2.map (·.gv) ++ [tgt] ∧ q ≠ tgt := by
    intro q b hq hb hbet
    rcases best_from ws none b hb with z | ⟨w, hww, h1, h2, h3⟩
    · cases z
    · obtain ⟨_, q2, q3⟩ := ent_mem h1
      have hA := h.am _ _ q2
      have hno : q ∉ (ent w m).2.map (·.gv) ++ [tgt] := fun hx => by
        obtain ⟨ex, e1, e2⟩ := Pg.low ha (fun v hv => hw v (hA.2 v hv)) (h.pg _ _ q2) q2 (Int.le_of_eq hA.1) q hx
        unfold betB at hbet
        rw [e1, h3] at hbet
        have hbet : mci w.t.b w.t.s (ent w m).1 < ex.1 := of_decide_eq_true hbet
        have hup := mci_up (hw w hww) (a := (ent w m).1) (by rw [hA.1]; exact Int.le_trans ha (am_ge ha fun v hv => hw v (hA.2 v hv)))
        rw [← hA.1] at e2
        omega
      exact ⟨w, hww, _, q3, q2, h2, h3, hno, fun z => hno (by rw [z]; exact List.mem_append_right _ (List.mem_singleton.mpr rfl))⟩
  refine ⟨?_, fun q e he => ?_, fun q e he => ?_, fun q e he => ?_, fun q e he => ?_⟩
  · rcases next_lk ws L src m tgt with z | ⟨b, h1, h2, h3, _⟩
    · exact z.trans h.tg
    · obtain ⟨_, _, _, _, _, _, _, _, z⟩ := new tgt b h1 h2 h3
      exact absurd rfl z
  all_goals
    rcases next_lk ws L src m q with z | ⟨b, h1, h2, h3, z⟩
  · exact h.am q e (z ▸ he)
  · rw [z] at he; cases he
    obtain ⟨w, hww, e', q1, q2, q3, q4, q5, q6⟩ := new q _ h1 h2 h3
    have hA := h.am _ _ q2
    subst q4
    exact ⟨by rw [am_cons, ← hA.1], fun v hv => (List.mem_cons.mp hv).elim (fun z => z ▸ hww) (hA.2 v)⟩
  · exact Pg.next low (h.pg q e (z ▸ he))
  · rw [z] at he; cases he
    obtain ⟨w, hww, e', q1, q2, q3, q4, q5, q6⟩ := new q _ h1 h2 h3
    have hA := h.am _ _ q2
    subst q4
    refine Pg.next low ⟨q1, ?_, ⟨e', q2, Int.le_of_eq hA.1⟩, h.pg _ _ q2⟩
    rw [← hA.1]; exact q3
  · exact h.nd q e (z ▸ he)
  · rw [z] at he; cases he
    obtain ⟨w, hww, e', q1, q2, q3, q4, q5, q6⟩ := new q _ h1 h2 h3
    subst q4
    rw [List.map_cons, List.cons_append]
    exact List.nodup_cons.mpr ⟨by rw [q1]; exact q5, h.nd _ _ q2⟩
  · exact h.ns q e (z ▸ he)
  · rw [z] at he; cases he
    obtain ⟨w, hww, e', q1, q2, q3, q4, q5, q6⟩ := new q _ h1 h2 h3
    subst q4
    intro v hv
    rcases List.mem_cons.mp hv with rfl | hv
    · rw [q1]; exact h1
    · exact h.ns _ _ q2 v hv
theorem knR_g {ws : List Wy} {L : List Lm} {src tgt a : Int} (hw : ∀ w ∈ ws, WyOk w) (ha : 0 ≤ a) : ∀ n, KnG ws L src tgt a (knR ws L src tgt a n)
  | 0 => by
    have one : ∀ q e, lkG (knR ws L src tgt a 0) q = some e → q = tgt ∧ e = (a, []) := fun q e he => by
      have := lkG_mem he
      cases List.mem_singleton.mp this
      exact ⟨rfl, rfl⟩
    refine ⟨by show lkG [(tgt, (a, []))] tgt = _; unfold lkG; simp, fun q e he => ?_, fun q e he => ?_, fun q e he => ?_, fun q e he => ?_⟩
    all_goals
      obtain ⟨rfl, rfl⟩ := one q e he
    · exact ⟨rfl, fun w hw => nomatch hw⟩
    · exact rfl
    · simp
    · exact fun w hw => nomatch hw
  | n + 1 => (knR_g hw ha n).next hw ha
/-- a route from p to the target -/
def Pc (L : List Lm) (tgt a : Int) (p : Int) : List Wy → Prop
  | [] => p = tgt
  | w :: s => w.gv = p ∧ mayC w (am a s) (lmAt L w.ch w.gv) = true ∧ Pc L tgt a w.tk s
theorem Pg.pc {L : List Lm} {tgt a : Int} {m : Kn} : ∀ {l : List Wy} {p : Int}, Pg L tgt a m p l → Pc L tgt a p l
  | [], _, z => z
  | w :: s, _, ⟨h1, h2, _, h5⟩ => ⟨h1, h2, h5.pc⟩
structure RtOk (ws : List Wy) (L : List Lm) (src tgt a hops : Int) (rt : List Wy) : Prop where
  ne : src ≠ tgt
  sub : ∀ w ∈ rt, w ∈ ws
  len : 1 ≤ rt.length ∧ (rt.length : Int) ≤ hops
  pc : Pc L tgt a src rt
  nd : (rt.map (·.gv) ++ [tgt]).Nodup
theorem cheap_ok {ws : List Wy} {L : List Lm} {src tgt a hops : Int} {rt : List Wy} (hw : ∀ w ∈ ws, WyOk w) (ha : 0 ≤ a) (hh : 1 ≤ hops) (h : cheap ws L src tgt a hops = some rt) : RtOk ws L src tgt a hops rt := by
  obtain ⟨ne, w, hww, e, hlk, hko, hgv, hmc, rfl⟩ := cheap_is h
  have G := knR_g (L := L) (src := src) (tgt := tgt) hw ha (hops - 1).toNat
  have hA := G.am _ _ hlk
  refine ⟨ne, fun v hv => (List.mem_cons.mp hv).elim (fun z => z ▸ hww) (hko.sub v), ⟨by rw [List.length_cons]; omega, by have := hko.ln; rw [List.length_cons]; omega⟩, ⟨hgv, ?_, (G.pg _ _ hlk).pc⟩, ?_⟩
  · rw [← hA.1]; exact hmc
  · rw [List.map_cons, List.cons_append]
    refine List.nodup_cons.mpr ⟨fun z => ?_, G.nd _ _ hlk⟩
    rcases List.mem_append.mp z with z | z
    · obtain ⟨v, hv, ev⟩ := List.mem_map.mp z
      exact G.ns _ _ hlk v hv (ev.trans hgv)
    · exact ne (hgv.symm.trans (List.mem_singleton.mp z))
/-- the loads, the first way first -/
theorem rows_cons (a : Int) (w : Wy) (s : List Wy) : (ldR a (w :: s).reverse).reverse = am a s :: (ldR a s.reverse).reverse := by
  rw [List.reverse_cons, ldR_snoc, List.reverse_append]; rfl
theorem rows_at {a : Int} : ∀ {rt : List Wy} {k : Nat}, k < rt.length → (ldR a rt.reverse).reverse.getD k 0 = am a (rt.drop (k + 1))
  | [], k, h => absurd h (Nat.not_lt_zero _)
  | w :: s, 0, _ => by rw [rows_cons]; rfl
  | w :: s, k + 1, h => by
    rw [rows_cons]
    exact rows_at (rt := s) (Nat.lt_of_succ_lt_succ h)
/-- where the route stands after k ways -/
def atk (tgt : Int) (rt : List Wy) (k : Nat) : Int := match rt.drop k with
  | [] => tgt
  | w :: _ => w.gv
theorem Pc.at {L : List Lm} {tgt a : Int} : ∀ {rt : List Wy} {p : Int} {k : Nat} {w : Wy}, Pc L tgt a p rt → rt[k]? = some w → w.gv = atk tgt rt k ∧ w.tk = atk tgt rt (k + 1) ∧ mayC w (am a (rt.drop (k + 1))) (lmAt L w.ch w.gv) = true
  | [], p, k, w, _, h => by simp at h
  | v :: s, p, 0, w, ⟨h1, h2, h3⟩, h => by
    cases h
    refine ⟨rfl, ?_, h2⟩
    show v.tk = atk tgt s 0
    cases s with
    | nil => exact h3
    | cons x s => exact h3.1.symm
  | v :: s, p, k + 1, w, ⟨h1, h2, h3⟩, h => Pc.at (rt := s) h3 (by simpa using h)
theorem Pc.at0 {L : List Lm} {tgt a : Int} {rt : List Wy} {p : Int} (h : Pc L tgt a p rt) : p = atk tgt rt 0 := by
  cases rt with
  | nil => exact h
  | cons w s => exact h.1.symm
theorem atk_new {tgt : Int} {rt : List Wy} (nd : (rt.map (·.gv) ++ [tgt]).Nodup) {k : Nat} (h : k ≤ rt.length) : atk tgt rt k ∉ (rt.take k).map (·.gv) := fun m => by
  have e : rt.map (·.gv) ++ [tgt] = (rt.take k).map (·.gv) ++ ((rt.drop k).map (·.gv) ++ [tgt]) := by rw [← List.append_assoc, ← List.map_append, List.take_append_drop]
  rw [e] at nd
  refine (List.nodup_append.mp nd).2.2 _ m (atk tgt rt k) ?_ rfl
  unfold atk
  cases rt.drop k with
  | nil => exact List.mem_append_right _ (List.mem_singleton.mpr rfl)
  | cons w s => exact List.mem_cons_self
theorem atk_end (tgt : Int) (rt : List Wy) : atk tgt rt rt.length = tgt := by unfold atk; rw [List.drop_length]
/-- the legs, the last one first -/
def legsP (a dl : Int) (R : List Wy) (k : Nat) : List (Int × Int) := (List.range k).map fun j => lastR (a, dl) ((R.take j).map (·.t))
theorem legsP_succ (a dl : Int) (R : List Wy) (k : Nat) : legsP a dl R (k + 1) = legsP a dl R k ++ [lastR (a, dl) ((R.take k).map (·.t))] := by
  unfold legsP
  rw [List.range_succ, List.map_append]; rfl
theorem rowsR_range : ∀ (l : List Tl) (x : Int × Int), rowsR x l = (List.range (l.length + 1)).map fun j => lastR x (l.take j)
  | [], x => rfl
  | t :: l, x => by
    rw [List.length_cons, List.range_succ_eq_map, List.map_cons, List.map_map]
    show x :: rowsR (tstep t x) l = x :: _
    rw [rowsR_range l]
    rfl
theorem legs_is {a dl : Int} {rt : List Wy} (h : 1 ≤ rt.length) : rowsR (a, dl) (tlw rt).reverse = legsP a dl rt.reverse rt.length := by
  rw [rowsR_range]
  have e1 : (tlw rt).reverse.length + 1 = rt.length := by
    unfold tlw
    rw [List.length_reverse, List.length_map, List.length_drop]
    omega
  rw [e1]
  unfold legsP
  refine List.map_congr_left fun j hj => ?_
  have hj := List.mem_range.mp hj
  congr 1
  unfold tlw
  cases rt with
  | nil => cases h
  | cons w s =>
    rw [List.drop_succ_cons, List.drop_zero, ← List.map_reverse, ← List.map_take, List.reverse_cons]
    rw [List.take_append_of_le_length (by rw [List.length_reverse]; rw [List.length_cons] at hj; omega)]
theorem lastR_snd {R : List Wy} {k : Nat} {w : Wy} {x : Int × Int} (h : R[k]? = some w) : (lastR x ((R.take (k + 1)).map (·.t))).2 = (lastR x ((R.take k).map (·.t))).2 + w.t.g := by
  rw [take_snoc h, List.map_append, List.map_cons, List.map_nil, lastR_snoc]
  rfl
theorem shp_wy (w : Wy) (n : Nat) : Shp (n + 2) (wyD w) := .tup (.cons .int (.cons .int (.cons .int (.cons (.tup (.cons .int (.cons .int (.cons .int .nil)))) (.cons .int .nil)))))
theorem shp_wys (l : List Wy) (n : Nat) : ShpA (n + 2) (wys l) := ShpA.map (fun w => shp_wy w n) l
theorem Wy16.tl {w : Wy} (h : Wy16 w) : TlOk w.t := ⟨by have := h.b; omega, by have := h.s; omega, by have := h.g; omega⟩
theorem getD_at {l : List Wy} {i : Nat} (h : i < l.length) : l[i]? = some (l.getD (i : Int).toNat dWy) := by
  rw [Int.toNat_natCast, List.getD_eq_getElem?_getD, List.getElem?_eq_getElem h]; rfl
theorem way_in {ws : List Wy} {w : Wy} (h : w ∈ ws) : ((wys ws).any fun z => PyData.eqv z (wyD w)) = true := List.any_eq_true.mpr ⟨wyD w, List.mem_map.mpr ⟨w, h, rfl⟩, eqv_same (shp_wy w 0)⟩
theorem ldR_at {a : Int} : ∀ {R : List Wy} {i : Nat}, i < R.length → (ldR a R)[i]? = some (ldE a (R.take i))
  | [], i, h => absurd h (Nat.not_lt_zero _)
  | w :: R, 0, _ => rfl
  | w :: R, i + 1, h => ldR_at (a := mci w.t.b w.t.s a) (R := R) (Nat.lt_of_succ_lt_succ h)
theorem rows_back {a dl : Int} {rt : List Wy} {i : Nat} (h : i < rt.length) : atI (itD (ldR a rt.reverse).reverse) (((wys rt).length : Int) - 1 - (i : Int)) = some (.int (lastR (a, dl) ((rt.reverse.take i).map (·.t))).1) := by
  rw [wys_len]
  refine atI_of (by omega) ?_
  have e : ((rt.length : Int) - 1 - (i : Int)).toNat = rt.length - 1 - i := by omega
  have hl : (ldR a rt.reverse).length = rt.length := by rw [ldR_len, List.length_reverse]
  have hr : i < rt.reverse.length := by rw [List.length_reverse]; exact h
  unfold itD
  rw [e, List.getElem?_map, List.getElem?_reverse (by omega), hl, show rt.length - 1 - (rt.length - 1 - i) = i from by omega, ldR_at hr, lastR_ldE]
  rfl
theorem any_at {l : List Int} {x : Int} (h : x ∉ l) : (l.any fun z => decide (z = x)) = false := by
  rw [List.any_eq_false]
  intro z hz e
  exact h (of_decide_eq_true e ▸ hz)
theorem tgt_new {rt : List Wy} {tgt : Int} (nd : (rt.map (·.gv) ++ [tgt]).Nodup) : tgt ∉ rt.map (·.gv) := fun m => (List.nodup_append.mp nd).2.2 _ m tgt (List.mem_singleton.mpr rfl) rfl
theorem itD_at0 {l : List Int} (h : 1 ≤ l.length) : atI (itD l) 0 = some (.int (l.getD 0 0)) := it_atI (p := 0) (Int.le_refl _) (by omega)
end Tp

namespace Tp
open PySem L2
def kyW (w : Wy) : List Int := [w.ch, w.gv]
def tabB (l : List (Wy × Int)) : List (List Int × Int) := l.foldl (fun t x => sdT t (kyW x.1) x.2) []
theorem sdT_len (t : List (List Int × Int)) (k : List Int) (v : Int) : (sdT t k v).length ≤ t.length + 1 := by
  unfold sdT
  cases lkT t k with
  | none => rw [List.length_append]; exact Nat.le_refl _
  | some _ => exact Nat.le_succ _
theorem tabF_len : ∀ (l : List (Wy × Int)) (t : List (List Int × Int)), (l.foldl (fun t x => sdT t (kyW x.1) x.2) t).length ≤ t.length + l.length
  | [], t => Nat.le_refl _
  | x :: l, t => by
    have ih := tabF_len l (sdT t (kyW x.1) x.2)
    have h := sdT_len t (kyW x.1) x.2
    rw [List.foldl_cons, List.length_cons]
    omega
theorem lkT_snoc {t : List (List Int × Int)} {k q : List Int} {v : Int} (h : lkT t k = none) : lkT (t ++ [(k, v)]) q = if q = k then some v else lkT t q := by
  unfold lkT at h ⊢
  rw [List.find?_append]
  by_cases e : q = k
  · subst e
    cases e2 : t.find? fun x => decide (x.1 = q) with
    | some x => rw [e2] at h; cases h
    | none => rw [if_pos rfl]; simp
  · rw [if_neg e]
    cases e2 : t.find? fun x => decide (x.1 = q) with
    | some x => rfl
    | none =>
      have : decide (k = q) = false := decide_eq_false fun z => e z.symm
      simp [List.find?_cons, this]
theorem lkT_sd (t : List (List Int × Int)) (k q : List Int) (v : Int) : lkT (sdT t k v) q = if q = k then some ((lkT t k).getD v) else lkT t q := by
  unfold sdT
  cases h : lkT t k with
  | none => exact lkT_snoc h
  | some z =>
    show lkT t q = _
    by_cases e : q = k
    · subst e; rw [if_pos rfl, h]; rfl
    · rw [if_neg e]
/-- what the table says: the first balance of the direction -/
theorem lkT_tab (q : List Int) : ∀ (l : List (Wy × Int)) (t : List (List Int × Int)), lkT (l.foldl (fun t x => sdT t (kyW x.1) x.2) t) q = match lkT t q with
    | some v => some v
    | none => (l.find? fun x => decide (kyW x.1 = q)).map (·.2)
  | [], t => by
    show lkT t q = _
    cases lkT t q <;> rfl
  | x :: l, t => by
    rw [List.foldl_cons, lkT_tab q l, lkT_sd, List.find?_cons]
    by_cases e : q = kyW x.1
    · rw [if_pos e, e, decide_eq_true rfl]
      cases lkT t (kyW x.1) <;> rfl
    · rw [if_neg e, decide_eq_false fun z => e z.symm]
theorem tabB_at (l : List (Wy × Int)) (q : List Int) : lkT (tabB l) q = (l.find? fun x => decide (kyW x.1 = q)).map (·.2) := lkT_tab q l []
/-- the balance of a way's direction -/
def tb (t : List (List Int × Int)) (w : Wy) : Int := (lkT t (kyW w)).getD 0
def lackB (t : List (List Int × Int)) (l : List Wy) (xs : List Int) (k : Nat) : Bool := decide (tb t (l.getD k dWy) < xs.getD k 0)
def outF (t : List (List Int × Int)) (l : List Wy) (xs : List Int) : Oc := match (List.range l.length).find? (lackB t l xs) with
  | none => .passed
  | some k => .lacks (k : Int)
theorem outF_yes {t : List (List Int × Int)} {l : List Wy} {xs : List Int} {i : Nat} (hi : i < l.length) (h0 : (List.range i).find? (lackB t l xs) = none) (h : lackB t l xs i = true) : outF t l xs = .lacks (i : Int) := by
  unfold outF
  have e : (List.range l.length).find? (lackB t l xs) = some i := find_take (i := i) (by rw [List.getElem?_range hi]) (by rw [List.take_range, Nat.min_eq_left (Nat.le_of_lt hi)]; exact h0) h
  rw [e]
theorem range_more {t : List (List Int × Int)} {l : List Wy} {xs : List Int} {i : Nat} (h0 : (List.range i).find? (lackB t l xs) = none) (h : lackB t l xs i = false) : (List.range (i + 1)).find? (lackB t l xs) = none := by
  rw [List.range_succ, List.find?_append, h0, List.find?_cons, h]
  rfl
theorem lack_is {t : List (List Int × Int)} {l : List Wy} {xs : List Int} {i : Nat} {w : Wy} {b : Int} {v : Bool} (hw : l[i]? = some w) (hb : lkT t (kyW w) = some b) (h : decide (b < xs.getD (i : Int).toNat 0) = v) : lackB t l xs i = v := by
  unfold lackB tb
  rw [List.getD_eq_getElem?_getD, hw]
  show decide ((lkT t (kyW w)).getD 0 < xs.getD i 0) = v
  rw [hb]
  exact h
theorem outF_ok {t : List (List Int × Int)} {l : List Wy} {xs : List Int} (h : l.length ≤ 100000) : OcOk (outF t l xs) := by
  unfold outF
  cases e : (List.range l.length).find? (lackB t l xs) with
  | none => trivial
  | some k =>
    have := List.mem_range.mp (List.mem_of_find?_eq_some e)
    exact ⟨by omega, by omega⟩
abbrev At := List Wy × Oc
def rowsW (a : Int) (rt : List Wy) : List Int := (ldR a rt.reverse).reverse
def attD (a : Int) (x : At) : D := .tuple [.tuple (wys x.1), .int ((rowsW a x.1).getD 0 0), ocD x.2]
/-- the attempts -/
def attF (ws : List Wy) (t : List (List Int × Int)) (src tgt a hops : Int) : Nat → List Lm → List At
  | 0, _ => []
  | n + 1, L => match cheap ws L src tgt a hops with
    | none => []
    | some rt => (rt, outF t rt (rowsW a rt)) :: match outF t rt (rowsW a rt) with
      | .passed => []
      | o => attF ws t src tgt a hops n (tauF L rt (rowsW a rt) o)
theorem att_none {ws : List Wy} {t : List (List Int × Int)} {src tgt a hops : Int} {n : Nat} {L : List Lm} (h : cheap ws L src tgt a hops = none) : attF ws t src tgt a hops n L = [] := by
  cases n with
  | zero => rfl
  | succ n => unfold attF; rw [h]
theorem att_pass {ws : List Wy} {t : List (List Int × Int)} {src tgt a hops : Int} {n : Nat} {L : List Lm} {rt : List Wy} (h : cheap ws L src tgt a hops = some rt) (h2 : outF t rt (rowsW a rt) = .passed) : attF ws t src tgt a hops (n + 1) L = [(rt, .passed)] := by
  show (match cheap ws L src tgt a hops with
    | none => []
    | some rt => _) = _
  rw [h]
  dsimp only
  rw [h2]
theorem att_more {ws : List Wy} {t : List (List Int × Int)} {src tgt a hops : Int} {n : Nat} {L : List Lm} {rt : List Wy} {p : Int} (h : cheap ws L src tgt a hops = some rt) (h2 : outF t rt (rowsW a rt) = .lacks p) : attF ws t src tgt a hops (n + 1) L = (rt, .lacks p) :: attF ws t src tgt a hops n (tauF L rt (rowsW a rt) (.lacks p)) := by
  show (match cheap ws L src tgt a hops with
    | none => []
    | some rt => _) = _
  rw [h]
  dsimp only
  rw [h2]
theorem outF_cases {t : List (List Int × Int)} {l : List Wy} {xs : List Int} : outF t l xs = .passed ∨ ∃ k : Nat, outF t l xs = .lacks (k : Int) ∧ k < l.length := by
  unfold outF
  cases e : (List.range l.length).find? (lackB t l xs) with
  | none => exact .inl rfl
  | some k => exact .inr ⟨k, rfl, List.mem_range.mp (List.mem_of_find?_eq_some e)⟩
def tryOk (ws : List Wy) (bs : List Int) (L : List Lm) (a hops n : Int) : Prop := reqOk ws.length L a hops ∧ bs.length = ws.length ∧ 1 ≤ n ∧ n ≤ 40
theorem ats_snoc (a : Int) (l : List At) (x : At) : (l ++ [x]).map (attD a) = l.map (attD a) ++ [attD a x] := List.map_append
theorem tab_all {ws : List Wy} {bs : List Int} (h : bs.length = ws.length) {w : Wy} (hw : w ∈ ws) : ∃ b, lkT (tabB (ws.zip bs)) (kyW w) = some b := by
  rw [tabB_at]
  cases e : (ws.zip bs).find? fun x => decide (kyW x.1 = kyW w) with
  | some x => exact ⟨_, rfl⟩
  | none =>
    rw [List.find?_eq_none] at e
    obtain ⟨i, hi, ew⟩ := List.getElem_of_mem hw
    have hz : (w, bs[i]'(by omega)) ∈ ws.zip bs := by
      have h2 : i < (ws.zip bs).length := by rw [List.length_zip]; omega
      have h3 : (ws.zip bs)[i] = (w, bs[i]'(by omega)) := by rw [List.getElem_zip, ew]
      exact h3 ▸ List.getElem_mem h2
    exact absurd (decide_eq_true rfl) (e _ hz)
end Tp

namespace Tp
open PySem L2
def wyK (j : Nat) : Wy := ⟨(j : Int), (j : Int) % 3, ((j : Int) + 1) % 3, ⟨1, 0, 1⟩, 1000000000000000⟩
def wsK (m : Nat) : List Wy := (List.range m).map wyK
def lmK (j : Nat) : Lm := ⟨(j : Int), (j : Int) % 2, 0, none⟩
def lmsK (m : Nat) : List Lm := (List.range m).map lmK
theorem wsK_is (m : Nat) : PyData.list (lcOut (fun _ => true) (fun (i : Nat) => PyData.tuple [.int (i : Int), .int ((i : Int) % 3), .int (((i : Int) + 1) % 3), .tuple [.int 1, .int 0, .int 1], .int 1000000000000000]) m) = .list (wys (wsK m)) := by
  rw [lcOut_all]
  unfold wys wsK
  rw [List.map_map]; rfl
theorem lmsK_is (m : Nat) : PyData.list (lcOut (fun _ => true) (fun (i : Nat) => PyData.tuple [.int (i : Int), .int ((i : Int) % 2), .int 0, .none]) m) = .list (lms (lmsK m)) := by
  rw [lcOut_all]
  unfold lms lmsK
  rw [List.map_map]; rfl
theorem wsK_len (m : Nat) : (wsK m).length = m := by unfold wsK; rw [List.length_map, List.length_range]
theorem lmsK_len (m : Nat) : (lmsK m).length = m := by unfold lmsK; rw [List.length_map, List.length_range]
theorem wsK_ok (m : Nat) : ∀ w ∈ wsK m, w.t = ⟨1, 0, 1⟩ ∧ w.mo = 1000000000000000 := fun w hw => by
  obtain ⟨j, _, rfl⟩ := List.mem_map.mp hw
  exact ⟨rfl, rfl⟩
theorem lmsK_uq (m : Nat) : UqL (lmsK m) := by
  unfold UqL lmsK
  rw [List.map_map]
  refine List.Pairwise.map _ (fun a b hab e => hab ?_) (List.nodup_range (n := m))
  have e : ((a : Int), (a : Int) % 2) = ((b : Int), (b : Int) % 2) := e
  injection e with e1
  omega
theorem lmsK_at {m : Nat} {p : Int} (h0 : 0 ≤ p) (h1 : p < (m : Int)) : atI (lms (lmsK m)) p = some (lmD (lmK p.toNat)) := by
  refine atI_of h0 ?_
  have h2 : p.toNat < m := by omega
  unfold lms lmsK
  rw [List.getElem?_map, List.getElem?_map, List.getElem?_range h2]
  rfl
theorem uq_twice {L : List Lm} {x : Lm} {y : Lm} (hy : y ∈ L) (e1 : x.ch = y.ch) (e2 : x.gv = y.gv) : ¬ UqL (L ++ [x]) := fun h => by
  unfold UqL at h
  rw [List.map_append] at h
  exact (List.nodup_append.mp h).2.2 (y.ch, y.gv) (List.mem_map.mpr ⟨y, hy, rfl⟩) (x.ch, x.gv) (List.mem_singleton.mpr rfl) (by rw [e1, e2])
theorem lmsK_mem {m j : Nat} (h : j < m) : lmK j ∈ lmsK m := List.mem_map.mpr ⟨j, List.mem_range.mpr h, rfl⟩
theorem lmsK_tk {m j k : Nat} (h : j < k) (hk : k ≤ m) : lmK j ∈ (lmsK m).take k := by
  unfold lmsK
  rw [← List.map_take, List.take_range, Nat.min_eq_left hk]
  exact lmsK_mem h
theorem amt_is : ∀ {i : Nat}, i < 6 → ([.int 0, .int 1, .int 2, .int 1000000000000000, .int (1000000000000000 + 1), .int (1000000000000000 - 1)] : List D).getD i .none = .int (([0, 1, 2, 1000000000000000, 1000000000000001, 999999999999999] : List Int).getD i 0)
  | 0, _ => rfl
  | 1, _ => rfl
  | 2, _ => rfl
  | 3, _ => rfl
  | 4, _ => rfl
  | 5, _ => rfl
  | n + 6, h => absurd h (by omega)
theorem dbl1 (L : List Lm) (c g : Int) : PyData.list (lms L ++ [.tuple ([.int c, .int g] ++ [.int 7, .int 9])]) = .list (lms (L ++ [⟨c, g, 7, some 9⟩])) := by rw [lms_snoc]; rfl
theorem dbl2 (L : List Lm) (k : Int) (h : 0 ≤ k) (x : Lm) : PyData.list (cutD (lms L) none (some k) ++ [lmD x]) = .list (lms (L.take k.toNat ++ [x])) := by
  rw [lms_snoc, cut_to h]
  unfold lms
  rw [List.map_take]
theorem money_is (ws : List Wy) : PyData.list ((ws.filter fun _ => true).map fun _ => PyData.int 5) = .list (itD (ws.map fun _ => (5 : Int))) := by
  rw [List.filter_eq_self.mpr (fun _ _ => rfl)]
  unfold itD
  rw [List.map_map]; rfl
theorem mci_1 {w : Wy} (h : w.t = ⟨1, 0, 1⟩) (a : Int) : mci w.t.b w.t.s a = a + 1 := by
  rw [h]; unfold mci; show a + 1 + (a * 0 + 999) / 1000 = a + 1; omega
theorem ldR_1 : ∀ {l : List Wy} (_ : ∀ w ∈ l, w.t = ⟨1, 0, 1⟩) {a b : Int}, (∀ x ∈ ldR a l, x ≤ b) ↔ (l = [] ∨ a + (l.length : Int) - 1 ≤ b)
  | [], _, a, b => ⟨fun _ => .inl rfl, fun _ x hx => nomatch hx⟩
  | w :: l, h, a, b => by
    have ih := ldR_1 (l := l) (fun v hv => h v (List.mem_cons_of_mem _ hv)) (a := a + 1) (b := b)
    have e : ldR a (w :: l) = a :: ldR (a + 1) l := by
      show a :: ldR (mci w.t.b w.t.s a) l = _
      rw [mci_1 (h w List.mem_cons_self)]
    rw [e]
    constructor
    · intro hx
      refine .inr ?_
      have h1 := hx a List.mem_cons_self
      rcases ih.mp (fun x hm => hx x (List.mem_cons_of_mem _ hm)) with z | z
      · rw [z, List.length_cons]; simp; exact h1
      · rw [List.length_cons]; omega
    · intro hz x hx
      rcases hz with z | z
      · cases z
      · rw [List.length_cons] at z
        rcases List.mem_cons.mp hx with rfl | hx
        · omega
        · exact ih.mpr (.inr (by omega)) x hx
theorem wr_is (db : Bool) {m a : Int} {ws : List Wy} {L : List Lm} (hwl : ws.length = m.toNat) (hm : 0 ≤ m) (hdU : UqL L ↔ db = false) : (decide (60 < m) || (decide (60 < ((lms L).length : Int)) || (db || !(decide (1 ≤ a) && decide (a ≤ 1000000000000000))))) = true ↔ ¬ rowsOk ws.length L a := by
  unfold rowsOk
  rw [lms_len, hdU]
  simp only [Bool.or_eq_true, Bool.not_eq_true', Bool.and_eq_false_iff, decide_eq_true_eq, decide_eq_false_iff_not]
  cases db
  · constructor
    · rintro (h | h | h | h | h) ⟨h1, h2, h3, h4⟩ <;> first | omega | cases h
    · intro h
      by_cases h1 : 60 < m
      · exact .inl h1
      · by_cases h2 : 60 < (L.length : Int)
        · exact .inr (.inl h2)
        · by_cases h3 : 1 ≤ a
          · by_cases h4 : a ≤ 1000000000000000
            · exact absurd ⟨by omega, by omega, ⟨h3, h4⟩, rfl⟩ h
            · exact .inr (.inr (.inr (.inr h4)))
          · exact .inr (.inr (.inr (.inl h3)))
  · exact ⟨fun _ h => (nomatch h.2.2.2), fun _ => .inr (.inr (.inl rfl))⟩
theorem due_1 {wr : Bool} {n : Nat} {L : List Lm} {a hops : Int} (hW : wr = true ↔ ¬ rowsOk n L a) : (reqOk n L a hops → (if (wr || !(decide (1 ≤ hops) && decide (hops ≤ 12))) = true then (1 : Int) else 0) = 0) ∧ (¬ reqOk n L a hops → (if (wr || !(decide (1 ≤ hops) && decide (hops ≤ 12))) = true then (1 : Int) else 0) = 1) := by
  have e : (wr || !(decide (1 ≤ hops) && decide (hops ≤ 12))) = true ↔ ¬ reqOk n L a hops := by
    unfold reqOk
    rw [Bool.or_eq_true, hW, Bool.not_eq_true', Bool.and_eq_false_iff, decide_eq_false_iff_not, decide_eq_false_iff_not]
    constructor
    · rintro (h | h | h) z
      · exact h z.1
      · exact h z.2.1
      · exact h z.2.2
    · intro h
      by_cases h1 : rowsOk n L a
      · by_cases h2 : 1 ≤ hops
        · by_cases h3 : hops ≤ 12
          · exact absurd ⟨h1, h2, h3⟩ h
          · exact .inr (.inr h3)
        · exact .inr (.inl h2)
      · exact .inl h1
  exact ⟨fun h => if_neg (fun z => e.mp z h), fun h => if_pos (e.mpr h)⟩
theorem due_2 {sh : Bool} {ws : List Wy} {bs : List Int} {L : List Lm} {a hops n d : Int} (hd : (reqOk ws.length L a hops → d = 0) ∧ (¬ reqOk ws.length L a hops → d = 1)) (hbs : bs.length = ws.length ↔ sh = false) : (tryOk ws bs L a hops n → (if (sh || !(decide (1 ≤ n) && decide (n ≤ 40))) = true then (1 : Int) else d) = 0) ∧ (¬ tryOk ws bs L a hops n → (if (sh || !(decide (1 ≤ n) && decide (n ≤ 40))) = true then (1 : Int) else d) = 1) := by
  have e : (sh || !(decide (1 ≤ n) && decide (n ≤ 40))) = true ↔ ¬ (bs.length = ws.length ∧ 1 ≤ n ∧ n ≤ 40) := by
    rw [hbs, Bool.or_eq_true, Bool.not_eq_true', Bool.and_eq_false_iff, decide_eq_false_iff_not, decide_eq_false_iff_not]
    cases sh
    · constructor
      · rintro (h | h | h) z
        · cases h
        · exact h z.2.1
        · exact h z.2.2
      · intro h
        by_cases h2 : 1 ≤ n
        · by_cases h3 : n ≤ 40
          · exact absurd ⟨rfl, h2, h3⟩ h
          · exact .inr (.inr h3)
        · exact .inr (.inl h2)
    · exact ⟨fun _ z => (nomatch z.1), fun _ => .inl rfl⟩
  unfold tryOk
  by_cases h : bs.length = ws.length ∧ 1 ≤ n ∧ n ≤ 40
  · rw [if_neg (fun z => e.mp z h)]
    exact ⟨fun z => hd.1 z.1, fun z => hd.2 fun y => z ⟨y, h⟩⟩
  · rw [if_pos (e.mpr h)]
    exact ⟨fun z => absurd z.2 h, fun _ => rfl⟩
theorem due_3 {ws : List Wy} {a m : Int} (hwo : ∀ w ∈ ws, w.t = ⟨1, 0, 1⟩ ∧ w.mo = 1000000000000000) (hwl : ws.length = m.toNat) (hm : 0 ≤ m) : ((∀ x ∈ ldR a ws.reverse, x ≤ 1000000000000000) → (if (decide (0 < m) && decide (1000000000000000 < a + m - 1)) = true then (2 : Int) else 0) = 0) ∧ (¬ (∀ x ∈ ldR a ws.reverse, x ≤ 1000000000000000) → (if (decide (0 < m) && decide (1000000000000000 < a + m - 1)) = true then (2 : Int) else 0) = 2) := by
  rw [ldR_1 (fun w hw => (hwo w (List.mem_reverse.mp hw)).1), List.length_reverse, List.reverse_eq_nil_iff]
  have e : (decide (0 < m) && decide (1000000000000000 < a + m - 1)) = true ↔ ¬ (ws = [] ∨ a + (ws.length : Int) - 1 ≤ 1000000000000000) := by
    rw [Bool.and_eq_true, decide_eq_true_eq, decide_eq_true_eq]
    constructor
    · rintro ⟨h1, h2⟩ (h | h)
      · rw [h] at hwl
        have h3 : 0 = m.toNat := hwl
        omega
      · omega
    · intro h
      refine ⟨?_, ?_⟩
      · rcases Int.lt_or_le 0 m with h0 | h0
        · exact h0
        · exact absurd (.inl (List.eq_nil_of_length_eq_zero (by omega))) h
      · rcases Int.lt_or_le 1000000000000000 (a + m - 1) with h0 | h0
        · exact h0
        · exact absurd (.inr (by omega)) h
  exact ⟨fun h => if_neg (fun z => e.mp z h), fun h => if_pos (e.mpr h)⟩
end Tp
namespace Tp
open PySem L2
def top (i : Nat) : Stmt := PySem.Challenge.pw_turnpike_k25_refused_requests.main.body.getD i (.Pass ⟨0, 0, 0, 0⟩)
abbrev s_must_come_in : Stmt := top 7
abbrev s_legs : Stmt := top 8
abbrev s_limit_of : Stmt := top 13
abbrev s_may_carry : Stmt := top 14
abbrev s_loads : Stmt := top 15
abbrev s_check_rows : Stmt := top 16
abbrev s_without : Stmt := top 18
abbrev s_carried : Stmt := top 19
abbrev s_stopped : Stmt := top 20
abbrev s_taught : Stmt := top 21
abbrev s_learn : Stmt := top 22
abbrev s_check_request : Stmt := top 24
abbrev s_best_way : Stmt := top 25
abbrev s_next_round : Stmt := top 26
abbrev s_cheapest : Stmt := top 27
abbrev s_find_route : Stmt := top 28
abbrev s_balance_table : Stmt := top 31
abbrev s_outcome_of : Stmt := top 32
abbrev s_try_routes : Stmt := top 33
abbrev s__law_number : Stmt := top 35
abbrev s__law_found : Stmt := top 36
abbrev s__law_tried : Stmt := top 37
abbrev s__law_learnt : Stmt := top 38
abbrev s_law : Stmt := top 39
structure Xs where
  TurnpikeError : Addr
  OutOfBounds : Addr
  TooMuchMoney : Addr
structure Txt (K : PySem.W.Frag) (mg : Str → Option Value) (xs : Xs) : Prop where
  x_TurnpikeError : XcT K mg "TurnpikeError" xs.TurnpikeError
  x_OutOfBounds : XcT K mg "OutOfBounds" xs.OutOfBounds
  x_TooMuchMoney : XcT K mg "TooMuchMoney" xs.TooMuchMoney
  s_OutOfBounds_OutOfBounds : PySem.W.subIn K (.ref xs.OutOfBounds) (.ref xs.OutOfBounds) = some true
  s_OutOfBounds_TooMuchMoney : PySem.W.subIn K (.ref xs.OutOfBounds) (.ref xs.TooMuchMoney) = some false
  s_OutOfBounds_TurnpikeError : PySem.W.subIn K (.ref xs.OutOfBounds) (.ref xs.TurnpikeError) = some true
  s_TooMuchMoney_OutOfBounds : PySem.W.subIn K (.ref xs.TooMuchMoney) (.ref xs.OutOfBounds) = some false
  s_TooMuchMoney_TooMuchMoney : PySem.W.subIn K (.ref xs.TooMuchMoney) (.ref xs.TooMuchMoney) = some true
  s_TooMuchMoney_TurnpikeError : PySem.W.subIn K (.ref xs.TooMuchMoney) (.ref xs.TurnpikeError) = some true
  b_dict : mg "dict" = none
  b_enumerate : mg "enumerate" = none
  b_int : mg "int" = none
  b_isinstance : mg "isinstance" = none
  b_len : mg "len" = none
  b_list : mg "list" = none
  b_max : mg "max" = none
  b_min : mg "min" = none
  b_range : mg "range" = none
  b_reversed : mg "reversed" = none
  b_set : mg "set" = none
  b_tuple : mg "tuple" = none
  b_zip : mg "zip" = none
  c_MOST_TOLLS : ∃ t, mg "MOST_TOLLS" = some (.int 20 t)
  c_MOST_AMOUNT : ∃ t, mg "MOST_AMOUNT" = some (.int 1000000000000000 t)
  c_MOST_ROWS : ∃ t, mg "MOST_ROWS" = some (.int 60 t)
  c_MOST_HOPS : ∃ t, mg "MOST_HOPS" = some (.int 12 t)
  c_MOST : ∃ t, mg "MOST" = some (.int 1000000000000000 t)
  c_MOST_ATTEMPTS : ∃ t, mg "MOST_ATTEMPTS" = some (.int 40 t)
theorem Txt.k_MOST_TOLLS {xs : Xs} {X : Cx} {B : Bx} {r : List Sl} {pos : Pos} (T : Txt X.K X.mg xs) (hg : Gl X "MOST_TOLLS" := by rfl) : EV X B (.Name "MOST_TOLLS" pos) r (.int 20) := by
  obtain ⟨t, e⟩ := T.c_MOST_TOLLS
  exact evG (v := .int 20) e ⟨t, rfl⟩ (.int _) hg
theorem Txt.k_MOST_AMOUNT {xs : Xs} {X : Cx} {B : Bx} {r : List Sl} {pos : Pos} (T : Txt X.K X.mg xs) (hg : Gl X "MOST_AMOUNT" := by rfl) : EV X B (.Name "MOST_AMOUNT" pos) r (.int 1000000000000000) := by
  obtain ⟨t, e⟩ := T.c_MOST_AMOUNT
  exact evG (v := .int 1000000000000000) e ⟨t, rfl⟩ (.int _) hg
theorem Txt.k_MOST_ROWS {xs : Xs} {X : Cx} {B : Bx} {r : List Sl} {pos : Pos} (T : Txt X.K X.mg xs) (hg : Gl X "MOST_ROWS" := by rfl) : EV X B (.Name "MOST_ROWS" pos) r (.int 60) := by
  obtain ⟨t, e⟩ := T.c_MOST_ROWS
  exact evG (v := .int 60) e ⟨t, rfl⟩ (.int _) hg
theorem Txt.k_MOST_HOPS {xs : Xs} {X : Cx} {B : Bx} {r : List Sl} {pos : Pos} (T : Txt X.K X.mg xs) (hg : Gl X "MOST_HOPS" := by rfl) : EV X B (.Name "MOST_HOPS" pos) r (.int 12) := by
  obtain ⟨t, e⟩ := T.c_MOST_HOPS
  exact evG (v := .int 12) e ⟨t, rfl⟩ (.int _) hg
theorem Txt.k_MOST {xs : Xs} {X : Cx} {B : Bx} {r : List Sl} {pos : Pos} (T : Txt X.K X.mg xs) (hg : Gl X "MOST" := by rfl) : EV X B (.Name "MOST" pos) r (.int 1000000000000000) := by
  obtain ⟨t, e⟩ := T.c_MOST
  exact evG (v := .int 1000000000000000) e ⟨t, rfl⟩ (.int _) hg
theorem Txt.k_MOST_ATTEMPTS {xs : Xs} {X : Cx} {B : Bx} {r : List Sl} {pos : Pos} (T : Txt X.K X.mg xs) (hg : Gl X "MOST_ATTEMPTS" := by rfl) : EV X B (.Name "MOST_ATTEMPTS" pos) r (.int 40) := by
  obtain ⟨t, e⟩ := T.c_MOST_ATTEMPTS
  exact evG (v := .int 40) e ⟨t, rfl⟩ (.int _) hg
def c_must_come_in (xs : Xs) : Ct := fun ds Q _ => ∃ (b : Int) (s : Int) (g_ : Int) (a : Int), ds = [.tuple [.int b, .int s, .int g_], .int a] ∧ (CMul a s) ∧ Q (.da (.int (mci b s a)))
def c_legs (xs : Xs) : Ct := fun ds Q E => ∃ a dl l, ds = [.int a, .int dl, .list (tls l)] ∧ ((∀ t ∈ l, TlOk t) ∧ 0 ≤ a ∧ l.length ≤ 100) ∧ (legOk (a, dl) l → Q (.da (.list (prs (rowsR (a, dl) l.reverse).reverse)))) ∧ (20 < l.length → E xs.OutOfBounds) ∧ (l.length ≤ 20 → 1000000000000000 < (lastR (a, dl) l.reverse).1 → E xs.TooMuchMoney)
def c_limit_of (xs : Xs) : Ct := fun ds Q _ => ∃ (L : List Lm) (c : Int) (gv : Int), ds = [.list (lms L), .int c, .int gv] ∧ Q (.da (olmD (lmAt L c gv)))
def c_may_carry (xs : Xs) : Ct := fun ds Q _ => ∃ (w : Wy) (a : Int) (L : List Lm), ds = [wyD w, .int a, .list (lms L)] ∧ Q (.da (.bool (mayC w a (lmAt L w.ch w.gv))))
def c_loads (xs : Xs) : Ct := fun ds Q _ => ∃ (l : List Wy) (a : Int), ds = [.tuple (wys l), .int a] ∧ ((∀ w ∈ l, WyOk w) ∧ l.length ≤ 1000) ∧ Q (.da (.list (itD (ldR a l.reverse).reverse)))
def c_check_rows (xs : Xs) : Ct := fun ds Q E => ∃ tp wd L a, ds = [sqD tp wd, .list (lms L), .int a] ∧ (rowsOk wd.length L a → Q (.da .none)) ∧ (¬ rowsOk wd.length L a → E xs.OutOfBounds)
def c_without (xs : Xs) : Ct := fun ds Q _ => ∃ (L : List Lm) (c : Int) (gv : Int), ds = [.list (lms L), .int c, .int gv] ∧ (L.length ≤ 90000) ∧ Q (.nl (lms (woL L c gv)))
def c_carried (xs : Xs) : Ct := fun ds Q _ => ∃ (L : List Lm) (w : Wy) (x : Int), ds = [.list (lms L), wyD w, .int x] ∧ (L.length ≤ 90000) ∧ Q (.nl (lms (carF L w x)))
def c_stopped (xs : Xs) : Ct := fun ds Q _ => ∃ (L : List Lm) (w : Wy) (x : Int), ds = [.list (lms L), wyD w, .int x] ∧ (L.length ≤ 90000) ∧ Q (.nl (lms (stpF L w x)))
def c_taught (xs : Xs) : Ct := fun ds Q _ => ∃ (L : List Lm) (l : List Wy) (xs : List Int) (o : Oc), ds = [.list (lms L), .tuple (wys l), .list (itD xs), ocD o] ∧ (OcOk o ∧ xs.length = l.length ∧ l.length ≤ 1000 ∧ L.length ≤ 80000) ∧ Q (.nl (lms (tauF L l xs o)))
def c_learn (xs : Xs) : Ct := fun ds Q E => ∃ L l a o, ds = [.list (lms L), .tuple (wys l), .int a, ocD o] ∧ ((∀ w ∈ l, WyOk w) ∧ OcOk o ∧ l.length ≤ 1000 ∧ L.length ≤ 80000) ∧ (rowsOk l.length L a → (∀ x ∈ ldR a l.reverse, x ≤ 1000000000000000) → Q (.nl (lms (tauF L l (ldR a l.reverse).reverse o)))) ∧ (¬ rowsOk l.length L a → E xs.OutOfBounds) ∧ (rowsOk l.length L a → ¬ (∀ x ∈ ldR a l.reverse, x ≤ 1000000000000000) → E xs.TooMuchMoney)
def c_check_request (xs : Xs) : Ct := fun ds Q E => ∃ tp wd L s t a hops, ds = [sqD tp wd, .list (lms L), .tuple [s, t, .int a, .int hops]] ∧ (reqOk wd.length L a hops → Q (.da .none)) ∧ (¬ reqOk wd.length L a hops → E xs.OutOfBounds)
def c_best_way (xs : Xs) : Ct := fun ds Q _ => ∃ (ws : List Wy) (L : List Lm) (gv : Int) (m : Kn), ds = [.list (wys ws), .list (lms L), .int gv, .dict ((gnv enD m).map kdm)] ∧ ((∀ w ∈ ws, TlOk w.t) ∧ ∀ x ∈ m, x.2.2.length ≤ 5000) ∧ Q (.da (obD (bestF ws L gv m)))
def c_next_round (xs : Xs) : Ct := fun ds Q _ => ∃ (ws : List Wy) (L : List Lm) (src : Int) (m : Kn), ds = [.list (wys ws), .list (lms L), .int src, .dict ((gnv enD m).map kdm)] ∧ ((∀ w ∈ ws, TlOk w.t) ∧ (∀ x ∈ m, x.2.2.length ≤ 5000) ∧ ws.length ≤ 1000 ∧ m.length ≤ 90000) ∧ Q (.nd (gnv enD (nextR ws L src m)))
def c_cheapest (xs : Xs) : Ct := fun ds Q _ => ∃ (ws : List Wy) (L : List Lm) (src : Int) (tgt : Int) (a : Int) (hops : Int), ds = [.list (wys ws), .list (lms L), .tuple [.int src, .int tgt, .int a, .int hops]] ∧ ((∀ w ∈ ws, TlOk w.t) ∧ ws.length ≤ 60 ∧ 1 ≤ hops ∧ hops ≤ 12) ∧ Q (.da (orD (cheap ws L src tgt a hops)))
def c_find_route (xs : Xs) : Ct := fun ds Q E => ∃ ws L src tgt a hops dl, ds = [.list (wys ws), .list (lms L), .tuple [.int src, .int tgt, .int a, .int hops], .int dl] ∧ ((∀ w ∈ ws, TlOk w.t) ∧ ∀ w ∈ ws, w.mo ≤ 1000000000000000) ∧ (reqOk ws.length L a hops → Q (.da (fndD (cheap ws L src tgt a hops) a dl))) ∧ (¬ reqOk ws.length L a hops → E xs.OutOfBounds)
def c_balance_table (xs : Xs) : Ct := fun ds Q _ => ∃ (ws : List Wy) (bs : List Int), ds = [.list (wys ws), .list (itD bs)] ∧ (bs.length = ws.length ∧ ws.length ≤ 1000) ∧ Q (.da (tabD (tabB (ws.zip bs))))
def c_outcome_of (xs : Xs) : Ct := fun ds Q _ => ∃ (l : List Wy) (xs : List Int) (t : List (List Int × Int)), ds = [.tuple (wys l), .list (itD xs), tabD t] ∧ ((∀ w ∈ l, ∃ b, lkT t (kyW w) = some b) ∧ xs.length = l.length) ∧ Q (.da (ocD (outF t l xs)))
def c_try_routes (xs : Xs) : Ct := fun ds Q E => ∃ ws bs L src tgt a hops n, ds = [.list (wys ws), .list (itD bs), .list (lms L), .tuple [.int src, .int tgt, .int a, .int hops], .int n] ∧ (∀ w ∈ ws, TlOk w.t) ∧ (tryOk ws bs L a hops n → Q (.nl ((attF ws (tabB (ws.zip bs)) src tgt a hops n.toNat L).map (attD a)))) ∧ (¬ tryOk ws bs L a hops n → E xs.OutOfBounds)
def c__law_number (xs : Xs) : Ct := fun ds Q _ => ∃ (ns : List Int) (k : Int), ds = [PyData.list (ns.map PyData.int), .int k] ∧ (0 ≤ k) ∧ Q (.da (.int (num ns k)))
def c__law_found (xs : Xs) : Ct := fun ds Q _ => ∃ ws L src tgt a hops, ds = [.list (wys ws), .list (lms L), .tuple [.int src, .int tgt, .int a, .int hops]] ∧ ((∀ w ∈ ws, TlOk w.t) ∧ (∀ w ∈ ws, w.mo ≤ 1000000000000000) ∧ ws.length ≤ 1000 ∧ L.length ≤ 80000) ∧ (reqOk ws.length L a hops → Q (.da (.int 0))) ∧ (¬ reqOk ws.length L a hops → Q (.da (.int 1)))
def c__law_tried (xs : Xs) : Ct := fun ds Q _ => ∃ ws bs L src tgt a hops n, ds = [.list (wys ws), .list (itD bs), .list (lms L), .tuple [.int src, .int tgt, .int a, .int hops], .int n] ∧ ((∀ w ∈ ws, TlOk w.t) ∧ (∀ w ∈ ws, w.mo ≤ 1000000000000000) ∧ ws.length ≤ 1000 ∧ L.length ≤ 80000) ∧ (tryOk ws bs L a hops n → Q (.da (.int 0))) ∧ (¬ tryOk ws bs L a hops n → Q (.da (.int 1)))
def c__law_learnt (xs : Xs) : Ct := fun ds Q _ => ∃ L ws a, ds = [.list (lms L), .tuple (wys ws), .int a] ∧ ((∀ w ∈ ws, WyOk w) ∧ ws.length ≤ 1000 ∧ L.length ≤ 80000) ∧ (rowsOk ws.length L a → (∀ x ∈ ldR a ws.reverse, x ≤ 1000000000000000) → Q (.da (.int 0))) ∧ (¬ rowsOk ws.length L a → Q (.da (.int 1))) ∧ (rowsOk ws.length L a → ¬ (∀ x ∈ ldR a ws.reverse, x ≤ 1000000000000000) → Q (.da (.int 2)))
def c_law (xs : Xs) : Ct := fun ds Q _ => ∃ (ns : List Int), ds = [PyData.list (ns.map PyData.int)] ∧ (ns.length ≤ 63) ∧ Q (.da (.bool true))
end Tp
local macro_rules | `(tactic| walk_at "Tp.fact") => `(tactic| first | exact Tp.num_nn _ _ | exact Tp.sm_olm _ _ | exact Tp.sm_lm _ _ | exact Tp.shp_lms _ _ | exact Tp.sma_itD _ _ | exact Tp.wy_atI (by omega) (by omega) | exact Tp.it_atI (by omega) (by omega) | exact Tp.lk_getN Tp.dEn (by assumption) | exact Tp.lk_get Tp.dEn (by assumption))
namespace Tp
open PySem L2
theorem rt_is {Q : Rs → Prop} {a b : Rs} (h : Q a) (e : b = a) : Q b := e ▸ h
end Tp
local macro_rules | `(tactic| walk_at "Tp.bool") => `(tactic| simp only [Bool.and_eq_true, Bool.or_eq_true, Bool.not_eq_true', Bool.not_eq_true, Bool.not_eq_false', Bool.not_eq_false, Bool.and_eq_false_iff, Bool.or_eq_false_iff, decide_eq_true_eq, decide_eq_false_iff_not, Bool.not_not, bne_iff_ne, ne_eq, Bool.false_eq_true, Bool.true_eq_false, not_true_eq_false, not_false_eq_true, Decidable.not_not, Int.not_lt, Int.not_le, Bool.not_true, Bool.not_false, Bool.true_or, Bool.or_true, Bool.false_or, Bool.or_false, Bool.true_and, Bool.and_true, Bool.false_and, Bool.and_false, reduceCtorEq, eq_self, decide_true, decide_false, false_or, or_false, true_or, or_true, true_and, and_true, false_and, and_false] at *)
local macro_rules | `(tactic| walk_at "Tp.pre") => `(tactic| first | trivial | decide | omega | assumption | exact of_decide_eq_true (by assumption) | walk_at "Tp.fact" | exact Or.inr ⟨by omega, by omega⟩ | exact Or.inl ⟨by omega, by omega⟩ | (simp only [List.length_cons, List.length_nil, List.length_map, List.length_append]; omega) | (refine ⟨?_, ?_⟩ <;> first | trivial | decide | omega | assumption) | ((try walk_at "Tp.bool"); all_goals omega) | ((try walk_at "Tp.bool"); all_goals (try simp only [List.length_cons, List.length_nil, List.length_map, List.length_append]); all_goals omega) | (walk_at "Tp.sm"; done))
local macro_rules | `(tactic| walk_at "Tp.add") => `(tactic| first | exact Tp.ov_add | exact Tp.ov_catA (by walk_at "Tp.len") | exact Tp.ov_catT (by simp) (Tp.line_of (Nat.le_of_ble_eq_true rfl)) | exact Tp.ov_catL (by walk_at "Tp.len"))
local macro_rules | `(tactic| walk_at "Tp.mul") => `(tactic| first | exact Tp.ov_mul (by assumption) | exact Tp.ov_mul (Or.inr ⟨by decide, by decide⟩) | exact Tp.ov_mul (Or.inl ⟨by decide, by decide⟩) | exact Tp.ov_mul (Or.inr ⟨by omega, by omega⟩) | exact Tp.ov_mul (Or.inl ⟨by omega, by omega⟩))
local macro_rules | `(tactic| walk_at "Tp.div") => `(tactic| first | exact Tp.ov_divW (by assumption) | exact Tp.ov_div (by assumption) | exact Tp.ov_div ⟨by decide, by decide⟩ | exact Tp.ov_div ⟨by omega, by omega⟩ | exact Tp.ov_divW ⟨by decide, by decide⟩ | exact Tp.ov_div ⟨by walk_at "Tp.pre", by walk_at "Tp.pre"⟩)
local macro_rules | `(tactic| walk_at "Tp.pow") => `(tactic| first | exact Tp.ov_pow9 | exact Tp.ov_pow15 | exact Tp.ov_pow12 | exact Tp.ov_pow18 | exact Tp.ov_pow ⟨by omega, by omega, by omega⟩ rfl)
local macro_rules | `(tactic| walk_at "Tp.eq") => `(tactic| first | exact Tp.cv_eqI | exact Tp.cv_eqB | exact Tp.cv_eqS | exact Tp.cv_eqD (by have z := Tp.Go.un (by assumption); exact z) (by walk_at "Tp.shp") (by walk_at "Tp.shp"))
local macro_rules | `(tactic| walk_at "Tp.ne") => `(tactic| first | exact Tp.cv_neI | exact Tp.cv_neB | exact Tp.cv_neS | exact Tp.cv_neD (by have z := Tp.Go.un (by assumption); exact z) (by walk_at "Tp.shp") (by walk_at "Tp.shp"))
local macro_rules | `(tactic| walk_at "Tp.is") => `(tactic| first | exact Tp.cv_isN | exact Tp.cv_isB)
local macro_rules | `(tactic| walk_at "Tp.isnot") => `(tactic| first | exact Tp.cv_notN | exact Tp.cv_notB)
local macro_rules | `(tactic| walk_at "Tp.at") => `(tactic| first | rfl | exact Tp.atI_of (by decide) rfl | assumption | walk_at "Tp.fact" | exact Tp.atI_ints (ns := [_, _]) (by walk_at "Tp.pre") (by walk_at "Tp.pre") | exact Tp.atI_ints (by walk_at "Tp.pre") (by walk_at "Tp.pre") | exact Tp.atI_D (by walk_at "Tp.pre") (by walk_at "Tp.pre"))
local macro_rules | `(tactic| walk_at "Tp.rng") => `(tactic| first | decide | omega)
local macro_rules | `(tactic| walk_at "Tp.len") => `(tactic| first | assumption | decide | omega | exact Nat.le_of_ble_eq_true rfl | (simp only [List.length_append, List.length_map, List.length_cons, List.length_nil, List.length_take, List.length_reverse]; omega) | (simp only [List.length_append, List.length_map, List.length_cons, List.length_nil, List.length_take, List.length_reverse]; omega) | omega)
local macro_rules | `(tactic| walk_at "Tp.wk") => `(tactic| ((repeat (first | exact Tp.Wk.nil | refine Tp.Wk.same ?_ | refine Tp.Wk.no ?_ | refine Tp.Wk.lst ?_ | refine Tp.Wk.dct ?_ | refine Tp.Wk.tab ?_)); done))
local macro_rules | `(tactic| walk_at "Tp.start") => `(tactic| rfl)
local macro_rules | `(tactic| walk_at "Tp.nx") => `(tactic| (refine Tp.loop_nx (q' := ?q) ?w ?h; (case h => exact rfl)))
local macro_rules | `(tactic| walk_at "Tp.step") => `(tactic| first | (refine Tp.loop_nx (q' := ?q) ?w ?h; (case h => exact rfl); (case w => walk_at "Tp.wk")) | (refine Tp.loop_ct (q' := ?q) ?w ?h; (case h => exact rfl); (case w => walk_at "Tp.wk")))
local macro_rules | `(tactic| walk_at "Tp.ret") => `(tactic| first | exact hQ | assumption | (exfalso; (try walk_at "Tp.bool"); all_goals (first | contradiction | omega)))
local macro_rules | `(tactic| walk_at "Tp.cut") => `(tactic| first | assumption | decide | (intro h; simp [HT.sIx] at h) | (intro h; exact absurd h.1 (by decide)))
local macro_rules | `(tactic| walk_at "Tp.look") => `(tactic| first | rfl | assumption | walk_at "Tp.fact")
local macro_rules | `(tactic| walk_at "Tp.shp") => `(tactic| repeat (first | walk_at "Tp.fact" | exact Tp.Shp.int | exact Tp.Shp.bl | exact Tp.Shp.non | exact Tp.Shp.str (by decide +kernel) | exact Tp.ShpA.nil | refine Tp.Shp.tup ?_ | refine Tp.Shp.lst ?_ | refine Tp.ShpA.cons ?_ ?_ | assumption | refine Tp.ShpA.map (fun x => ?_) _))
local macro_rules | `(tactic| walk_at "Tp.exc") => `(tactic| first | exact hE | exact hE (by walk_at "Tp.pre"))
local macro_rules | `(tactic| walk_at "Tp.ixn") => `(tactic| first | rfl | exact Tp.ixN_D (by walk_at "Tp.pre") (by walk_at "Tp.pre"))
local macro_rules | `(tactic| walk_at "Tp.sm") => `(tactic| repeat (first | walk_at "Tp.fact" | exact Tp.Sm.int | exact Tp.Sm.bl | exact Tp.Sm.non | exact Tp.Sm.str | exact Tp.SmA.nil | refine Tp.Sm.tup (by walk_at "Tp.len") ?_ | refine Tp.SmA.cons ?_ ?_ | assumption | refine Tp.SmA.map (fun x => ?_) _))
local macro_rules | `(tactic| walk_at "Tp.nxE") => `(tactic| (refine Tp.loop_nx (q' := ?q) ?w (Exists.intro ?pp ?h); (case h => exact rfl)))
local macro_rules | `(tactic| walk_at "Tp.nx2") => `(tactic| (refine Tp.loop_nx (q' := ?q) ?w (And.intro ?le ?h); (case h => exact rfl)))
local macro_rules | `(tactic| walk_at "Tp.six") => `(tactic| first | rfl | assumption | walk_at "Tp.fact")
namespace Tp
open PySem L2
section
variable {P : Program} {w : World} {K : PySem.W.Frag} {mg : Str → Option Value} {base : Heap}
/-! must_come_in -/
theorem sc_must_come_in : FnScope ["toll", "amount"] ["toll", "amount"] (defScope s_must_come_in) := ⟨rfl, rfl, rfl, by decide +kernel, rfl, by decide +kernel, by decide +kernel⟩
theorem ok_must_come_in {xs : Xs} {f : Addr} {fd : FuncData} (F : Fun K "must_come_in" "must_come_in" s_must_come_in f fd) (T : Txt K mg xs) : FnOk P w K mg base (L2.CX P w) 1 f fd ["toll", "amount"] (spD [] K (c_must_come_in xs)) := by
  refine fn_d F sc_must_come_in (fun ds Q E h => by obtain ⟨_, _, _, _, rfl, _⟩ := h; rfl) fun cdv A outer s H H0 E qs ds Q Ex g hc => ?_
  obtain ⟨b, s, g_, a, rfl, hpre, hQ⟩ := hc
  show SV _ _ _ _ [.im (.tuple [.int b, .int s, .int g_]), .im (.int a)] _
  -- return amount + toll[0] + (amount * toll[1] + 999) // 1000
  refine sv_ret (evBin (evBin (evV 1 rfl) (evIx (by first | exact (evV 0 rfl).seqT | exact (evV 0 rfl).seq | exact esO 0 rfl | exact EV.seqQ (evV 0 rfl)) evI (by walk_at "Tp.at")) (by walk_at "Tp.add")) (evBin (evBin (evBin (evV 1 rfl) (evIx (by first | exact (evV 0 rfl).seqT | exact (evV 0 rfl).seq | exact esO 0 rfl | exact EV.seqQ (evV 0 rfl)) evI (by walk_at "Tp.at")) (by walk_at "Tp.mul")) evI (by walk_at "Tp.add")) evI (by walk_at "Tp.div")) (by walk_at "Tp.add")) ?_
  show Q _
  walk_at "Tp.ret"
end
end Tp
namespace Tp
open PySem L2
section
variable {P : Program} {w : World} {K : PySem.W.Frag} {mg : Str → Option Value} {base : Heap}
/-! legs -/
theorem sc_legs : FnScope ["amount", "deadline", "tolls", "rows", "toll"] ["amount", "deadline", "tolls"] (defScope s_legs) := ⟨rfl, rfl, rfl, by decide +kernel, rfl, by decide +kernel, by decide +kernel⟩
theorem ok_legs {xs : Xs} {f : Addr} {fd : FuncData} (F : Fun K "legs" "legs" s_legs f fd) (T : Txt K mg xs) (C_must_come_in : Cal P w [] K mg base "must_come_in" 1 (c_must_come_in xs)) : FnOk P w K mg base (L2.CX P w) 2 f fd ["amount", "deadline", "tolls"] (spD [] K (c_legs xs)) := by
  refine fn_d F sc_legs (fun ds Q E h => by obtain ⟨_, _, _, rfl, _⟩ := h; rfl) fun cdv A outer s H H0 E qs ds Q Ex g hc => ?_
  obtain ⟨a, dl, l, rfl, ⟨ht, ha, hl⟩, hQ, hE, hM⟩ := hc
  show SV _ _ _ _ [.im (.int a), .im (.int dl), .im (.list (tls l)), .no, .no] _
  -- if len(tolls) > MOST_TOLLS:
  refine sv_ifX (etCmp (EV.h (evLen (by first | exact (evV 2 rfl).seqT | exact (evV 2 rfl).seq | exact esO 2 rfl | exact EV.seqQ (evV 2 rfl)) T.b_len)) (EV.h T.k_MOST_TOLLS) cv_gt) (fun h14 => ?_) (fun h14 => ?_)
  · skip
    -- raise OutOfBounds()
    refine sv_raise g T.x_OutOfBounds ?_
    rw [tls_len] at h14
    exact hE (by walk_at "Tp.pre")
  · skip
    -- if amount > MOST_AMOUNT:
    refine sv_ifX (etCmp (by first | exact (evV 0 rfl).h | exact (esO 0 rfl).h) (EV.h T.k_MOST_AMOUNT) cv_gt) (fun h16 => ?_) (fun h16 => ?_)
    · skip
      -- raise TooMuchMoney()
      refine sv_raise g T.x_TooMuchMoney ?_
      rw [tls_len] at h14
      refine hM (by walk_at "Tp.pre") ?_
      have := lastR_ge (l := l.reverse) (fun t h => ht t (List.mem_reverse.mp h)) (x := (a, dl)) ha
      simp only at this
      walk_at "Tp.bool"
      omega
    · skip
      -- rows = [(amount, deadline)]
      refine sv_new 3 g (enLst (eaC (evTup (eaC (evV 0 rfl) (eaC (evV 1 rfl) eaN))) eaN)) fun p3_18 => ?_
      -- for toll in reversed(tolls):
      refine sv_forV (fun i r' => (lastR (a, dl) (l.reverse.take i)).1 ≤ 1000000000000000 ∧ r' = [.im (.int (lastR (a, dl) (l.reverse.take i)).1), .im (.int (lastR (a, dl) (l.reverse.take i)).2), .im (.list (tls l)), .ol p3_18 (prs (rowsR (a, dl) (l.reverse.take i))), .no]) ((fun d r' => r'.set 4 (.im d))) g (evV 2 rfl) T.b_reversed (fun _ i d r' hi => gt_name 4 g.nd) ?_ (fun B1 i d r' hi hI => ?_) (fun r' hI => ?_)
      · exact ⟨Int.not_lt.mp (of_decide_eq_false h16), rfl⟩
      · obtain ⟨hle, rfl⟩ := hI
        rw [tls_rev] at hi
        obtain ⟨t, htt, rfl⟩ := tls_at hi
        have ho := ht t (List.mem_reverse.mp (List.mem_of_getElem? htt))
        have hs := ho.s
        have hc : CMul (lastR (a, dl) (l.reverse.take i)).1 t.s := Or.inr ⟨by omega, by omega⟩
        have hn : (prs (rowsR (a, dl) (l.reverse.take i))).length ≤ 101 := by
          rw [prs_len, rowsR_len, List.length_take, List.length_reverse]
          omega
        -- amount = must_come_in(toll, amount)
        refine sv_asg 0 g (EC.ev (ecCall g C_must_come_in (by decide) (eaC (evV 4 rfl) (eaC (evV 0 rfl) eaN)) ⟨_, _, _, _, rfl, by walk_at "Tp.pre", rfl⟩)) ?_
        -- deadline = deadline + toll[2]
        refine sv_asg 1 g (evBin (evV 1 rfl) (evIx (by first | exact (evV 4 rfl).seqT | exact (evV 4 rfl).seq | exact esO 4 rfl | exact EV.seqQ (evV 4 rfl)) evI (by walk_at "Tp.at")) (by walk_at "Tp.add")) ?_
        -- if amount > MOST_AMOUNT:
        refine sv_ifX (etCmp (by first | exact (evV 0 rfl).h | exact (esO 0 rfl).h) (EV.h T.k_MOST_AMOUNT) cv_gt) (fun h22 => ?_) (fun h22 => ?_)
        · skip
          -- raise TooMuchMoney()
          refine sv_raise g T.x_TooMuchMoney ?_
          rw [tls_len] at h14
          refine hM (by walk_at "Tp.pre") ?_
          have hz := lastR_take (l := l.reverse) (fun t h => ht t (List.mem_reverse.mp h)) (x := (a, dl)) ha (i + 1)
          rw [take_snoc htt, lastR_snoc] at hz
          have h22 := of_decide_eq_true h22
          exact Int.lt_of_lt_of_le h22 hz
        · skip
          -- rows.append((amount, deadline))
          refine sv_app 3 rfl (evTup (eaC (evV 0 rfl) (eaC (evV 1 rfl) eaN))) (by walk_at "Tp.len") ?_
          refine sv_nil ?_
          walk_at "Tp.nx2"
          · rw [take_snoc htt, rowsR_snoc, lastR_snoc]
            rw [prs_snoc]
            walk_at "Tp.wk"
          · rw [take_snoc htt, lastR_snoc]
            exact Int.not_lt.mp (of_decide_eq_false h22)
      · obtain ⟨hle, rfl⟩ := hI
        have e : l.reverse.take (tls l).length = l.reverse := by rw [tls_len, ← List.length_reverse (as := l), List.take_length]
        rw [e] at hle ⊢
        -- return rows[::-1]
        rw [tls_len] at h14
        refine sv_ret (evRev (by first | exact (evV 3 rfl).seqT | exact (evV 3 rfl).seq | exact esO 3 rfl | exact EV.seqQ (evV 3 rfl))) ?_
        show Q _
        rw [prs_rev]
        exact hQ ⟨by walk_at "Tp.pre", hle⟩
end
end Tp
namespace Tp
open PySem L2
section
variable {P : Program} {w : World} {K : PySem.W.Frag} {mg : Str → Option Value} {base : Heap}
/-! limit_of -/
theorem sc_limit_of : FnScope ["limits", "channel", "giver", "limit"] ["limits", "channel", "giver"] (defScope s_limit_of) := ⟨rfl, rfl, rfl, by decide +kernel, rfl, by decide +kernel, by decide +kernel⟩
theorem ok_limit_of {xs : Xs} {f : Addr} {fd : FuncData} (F : Fun K "limit_of" "limit_of" s_limit_of f fd) (T : Txt K mg xs) : FnOk P w K mg base (L2.CX P w) 1 f fd ["limits", "channel", "giver"] (spD [] K (c_limit_of xs)) := by
  refine fn_d F sc_limit_of (fun ds Q E h => by obtain ⟨_, _, _, rfl, _⟩ := h; rfl) fun cdv A outer s H H0 E qs ds Q Ex g hc => ?_
  obtain ⟨L, c, gv, rfl, hQ⟩ := hc
  show SV _ _ _ _ [.im (.list (lms L)), .im (.int c), .im (.int gv), .no] _
  -- for limit in limits:
  refine sv_forL (fun i r' => (L.take i).find? (isL c gv) = none ∧ r' = [.im (.list (lms L)), .im (.int c), .im (.int gv), .no]) ((fun d r' => r'.set 3 (.im d))) g (evV 0 rfl) (fun _ i d r' hi => gt_name 3 g.nd) ?_ (fun B1 i d r' hi hI => ?_) (fun r' hI => ?_)
  · exact ⟨rfl, rfl⟩
  · obtain ⟨h0, rfl⟩ := hI
    obtain ⟨m, hm, rfl⟩ := map_at hi
    -- if limit[0] == channel and limit[1] == giver:
    refine sv_ifX (EW.t (ewAnd (etCmp (EV.h (evIx (by first | exact (evV 3 rfl).seqT | exact (evV 3 rfl).seq | exact esO 3 rfl | exact EV.seqQ (evV 3 rfl)) evI (by walk_at "Tp.at"))) (by first | exact (evV 1 rfl).h | exact (esO 1 rfl).h) (by walk_at "Tp.eq")) fun hb => (ewAnd1 (etCmp (EV.h (evIx (by first | exact (evV 3 rfl).seqT | exact (evV 3 rfl).seq | exact esO 3 rfl | exact EV.seqQ (evV 3 rfl)) evI (by walk_at "Tp.at"))) (by first | exact (evV 2 rfl).h | exact (esO 2 rfl).h) (by walk_at "Tp.eq"))))) (fun h32 => ?_) (fun h32 => ?_)
    · skip
      -- return limit
      refine sv_ret (evV 3 rfl) ?_
      show Q _
      refine rt_is hQ (congrArg Rs.da ?_)
      rw [show lmAt L c gv = some m from find_take hm h0 h32]
      rfl
    · skip
      refine sv_nil ?_
      walk_at "Tp.nx2"
      · walk_at "Tp.wk"
      · exact find_more hm h0 h32
  · obtain ⟨h0, rfl⟩ := hI
    -- return None
    refine sv_ret evN ?_
    show Q _
    refine rt_is hQ (congrArg Rs.da ?_)
    rw [lms_len, List.take_length] at h0
    rw [show lmAt L c gv = none from h0]
    rfl
end
end Tp
namespace Tp
open PySem L2
section
variable {P : Program} {w : World} {K : PySem.W.Frag} {mg : Str → Option Value} {base : Heap}
/-! may_carry -/
theorem sc_may_carry : FnScope ["way", "amount", "limits", "limit"] ["way", "amount", "limits"] (defScope s_may_carry) := ⟨rfl, rfl, rfl, by decide +kernel, rfl, by decide +kernel, by decide +kernel⟩
theorem ok_may_carry {xs : Xs} {f : Addr} {fd : FuncData} (F : Fun K "may_carry" "may_carry" s_may_carry f fd) (T : Txt K mg xs) (C_limit_of : Cal P w [] K mg base "limit_of" 1 (c_limit_of xs)) : FnOk P w K mg base (L2.CX P w) 2 f fd ["way", "amount", "limits"] (spD [] K (c_may_carry xs)) := by
  refine fn_d F sc_may_carry (fun ds Q E h => by obtain ⟨_, _, _, rfl, _⟩ := h; rfl) fun cdv A outer s H H0 E qs ds Q Ex g hc => ?_
  obtain ⟨w, a, L, rfl, hQ⟩ := hc
  show SV _ _ _ _ [.im (wyD w), .im (.int a), .im (.list (lms L)), .no] _
  -- if amount > way[4]:
  refine sv_ifX (etCmp (by first | exact (evV 1 rfl).h | exact (esO 1 rfl).h) (EV.h (evIx (by first | exact (evV 0 rfl).seqT | exact (evV 0 rfl).seq | exact esO 0 rfl | exact EV.seqQ (evV 0 rfl)) evI (by walk_at "Tp.at"))) cv_gt) (fun h36 => ?_) (fun h36 => ?_)
  · skip
    -- return False
    refine sv_ret evB ?_
    show Q _
    refine rt_is hQ (congrArg (fun z => Rs.da (PyData.bool z)) ?_)
    unfold mayC
    rw [if_pos (of_decide_eq_true h36)]
  · skip
    -- limit = limit_of(limits, way[0], way[1])
    refine sv_asg 3 g (EC.ev (ecCall g C_limit_of (by decide) (eaC (evV 2 rfl) (eaC (evIx (by first | exact (evV 0 rfl).seqT | exact (evV 0 rfl).seq | exact esO 0 rfl | exact EV.seqQ (evV 0 rfl)) evI (by walk_at "Tp.at")) (eaC (evIx (by first | exact (evV 0 rfl).seqT | exact (evV 0 rfl).seq | exact esO 0 rfl | exact EV.seqQ (evV 0 rfl)) evI (by walk_at "Tp.at")) eaN))) ⟨_, _, _, rfl, rfl⟩)) ?_
    -- return limit is None or limit[3] is None or amount < limit[3]
    rcases ho : lmAt L w.ch w.gv with _ | m
    · skip
      show SV _ _ _ _ [_, _, _, .im .none] _
      -- return limit is None or limit[3] is None or amount < limit[3]
      refine sv_ret (by first | exact evOrT (evCmp (by first | exact (evV 3 rfl).h | exact (esO 3 rfl).h) (EV.h evN) (by walk_at "Tp.is")) | exact evOr (evCmp (by first | exact (evV 3 rfl).h | exact (esO 3 rfl).h) (EV.h evN) (by walk_at "Tp.is")) fun hb => (by first | exact evOrT (evCmp (EV.h (evIx (by first | exact (evV 3 rfl).seqT | exact (evV 3 rfl).seq | exact esO 3 rfl | exact EV.seqQ (evV 3 rfl)) evI (by walk_at "Tp.at"))) (EV.h evN) (by walk_at "Tp.is")) | exact evOr (evCmp (EV.h (evIx (by first | exact (evV 3 rfl).seqT | exact (evV 3 rfl).seq | exact esO 3 rfl | exact EV.seqQ (evV 3 rfl)) evI (by walk_at "Tp.at"))) (EV.h evN) (by walk_at "Tp.is")) fun hb => (evOne (evCmp (by first | exact (evV 1 rfl).h | exact (esO 1 rfl).h) (EV.h (evIx (by first | exact (evV 3 rfl).seqT | exact (evV 3 rfl).seq | exact esO 3 rfl | exact EV.seqQ (evV 3 rfl)) evI (by walk_at "Tp.at"))) cv_lt)))) ?_
      show Q _
      refine rt_is hQ (congrArg (fun z => Rs.da (PyData.bool z)) ?_)
      unfold mayC
      rw [if_neg (of_decide_eq_false h36), ho]
      try rfl
    · skip
      skip
      -- return limit is None or limit[3] is None or amount < limit[3]
      rcases m with ⟨c, gv, lo, be⟩
      rcases be with _ | b
      · skip
        show SV _ _ _ _ [_, _, _, .im (.tuple [.int c, .int gv, .int lo, .none])] _
        -- return limit is None or limit[3] is None or amount < limit[3]
        refine sv_ret (by first | exact evOrT (evCmp (by first | exact (evV 3 rfl).h | exact (esO 3 rfl).h) (EV.h evN) (by walk_at "Tp.is")) | exact evOr (evCmp (by first | exact (evV 3 rfl).h | exact (esO 3 rfl).h) (EV.h evN) (by walk_at "Tp.is")) fun hb => (by first | exact evOrT (evCmp (EV.h (evIx (by first | exact (evV 3 rfl).seqT | exact (evV 3 rfl).seq | exact esO 3 rfl | exact EV.seqQ (evV 3 rfl)) evI (by walk_at "Tp.at"))) (EV.h evN) (by walk_at "Tp.is")) | exact evOr (evCmp (EV.h (evIx (by first | exact (evV 3 rfl).seqT | exact (evV 3 rfl).seq | exact esO 3 rfl | exact EV.seqQ (evV 3 rfl)) evI (by walk_at "Tp.at"))) (EV.h evN) (by walk_at "Tp.is")) fun hb => (evOne (evCmp (by first | exact (evV 1 rfl).h | exact (esO 1 rfl).h) (EV.h (evIx (by first | exact (evV 3 rfl).seqT | exact (evV 3 rfl).seq | exact esO 3 rfl | exact EV.seqQ (evV 3 rfl)) evI (by walk_at "Tp.at"))) cv_lt)))) ?_
        show Q _
        refine rt_is hQ (congrArg (fun z => Rs.da (PyData.bool z)) ?_)
        unfold mayC
        rw [if_neg (of_decide_eq_false h36), ho]
        try rfl
      · skip
        show SV _ _ _ _ [_, _, _, .im (.tuple [.int c, .int gv, .int lo, .int b])] _
        -- return limit is None or limit[3] is None or amount < limit[3]
        refine sv_ret (by first | exact evOrT (evCmp (by first | exact (evV 3 rfl).h | exact (esO 3 rfl).h) (EV.h evN) (by walk_at "Tp.is")) | exact evOr (evCmp (by first | exact (evV 3 rfl).h | exact (esO 3 rfl).h) (EV.h evN) (by walk_at "Tp.is")) fun hb => (by first | exact evOrT (evCmp (EV.h (evIx (by first | exact (evV 3 rfl).seqT | exact (evV 3 rfl).seq | exact esO 3 rfl | exact EV.seqQ (evV 3 rfl)) evI (by walk_at "Tp.at"))) (EV.h evN) (by walk_at "Tp.is")) | exact evOr (evCmp (EV.h (evIx (by first | exact (evV 3 rfl).seqT | exact (evV 3 rfl).seq | exact esO 3 rfl | exact EV.seqQ (evV 3 rfl)) evI (by walk_at "Tp.at"))) (EV.h evN) (by walk_at "Tp.is")) fun hb => (evOne (evCmp (by first | exact (evV 1 rfl).h | exact (esO 1 rfl).h) (EV.h (evIx (by first | exact (evV 3 rfl).seqT | exact (evV 3 rfl).seq | exact esO 3 rfl | exact EV.seqQ (evV 3 rfl)) evI (by walk_at "Tp.at"))) cv_lt)))) ?_
        show Q _
        refine rt_is hQ (congrArg (fun z => Rs.da (PyData.bool z)) ?_)
        unfold mayC
        rw [if_neg (of_decide_eq_false h36), ho]
        try rfl
end
end Tp
namespace Tp
open PySem L2
section
variable {P : Program} {w : World} {K : PySem.W.Frag} {mg : Str → Option Value} {base : Heap}
/-! loads -/
theorem sc_loads : FnScope ["route", "amount", "rows", "way"] ["route", "amount"] (defScope s_loads) := ⟨rfl, rfl, rfl, by decide +kernel, rfl, by decide +kernel, by decide +kernel⟩
theorem ok_loads {xs : Xs} {f : Addr} {fd : FuncData} (F : Fun K "loads" "loads" s_loads f fd) (T : Txt K mg xs) (C_must_come_in : Cal P w [] K mg base "must_come_in" 1 (c_must_come_in xs)) : FnOk P w K mg base (L2.CX P w) 2 f fd ["route", "amount"] (spD [] K (c_loads xs)) := by
  refine fn_d F sc_loads (fun ds Q E h => by obtain ⟨_, _, rfl, _⟩ := h; rfl) fun cdv A outer s H H0 E qs ds Q Ex g hc => ?_
  obtain ⟨l, a, rfl, hpre, hQ⟩ := hc
  show SV _ _ _ _ [.im (.tuple (wys l)), .im (.int a), .no, .no] _
  -- rows = []
  refine sv_new 2 g (enLst eaN) fun p2_41 => ?_
  -- for way in reversed(route):
  refine sv_forVT (fun i r' => r' = [.im (.tuple (wys l)), .im (.int (ldE a (l.reverse.take i))), .ol p2_41 (itD (ldR a (l.reverse.take i))), .no]) ((fun d r' => r'.set 3 (.im d))) g (evV 0 rfl) T.b_reversed (fun _ i d r' hi => gt_name 3 g.nd) ?_ (fun B1 i d r' hi hI => ?_) (fun r' hI => ?_)
  · exact rfl
  · obtain rfl := hI
    rw [wys_rev] at hi
    obtain ⟨w, hw, rfl⟩ := map_at hi
    have ho := hpre.1 w (List.mem_reverse.mp (List.mem_of_getElem? hw))
    have hs := ho.s
    have hc : CMul (ldE a (l.reverse.take i)) w.t.s := Or.inr ⟨by omega, by omega⟩
    have hn : (itD (ldR a (l.reverse.take i))).length ≤ 1000 := by
      rw [itD_len, ldR_len, List.length_take, List.length_reverse]
      omega
    -- rows.append(amount)
    refine sv_app 2 rfl (evV 1 rfl) (by walk_at "Tp.len") ?_
    -- amount = must_come_in(way[3], amount)
    refine sv_asg 1 g (EC.ev (ecCall g C_must_come_in (by decide) (eaC (evIx (by first | exact (evV 3 rfl).seqT | exact (evV 3 rfl).seq | exact esO 3 rfl | exact EV.seqQ (evV 3 rfl)) evI (by walk_at "Tp.at")) (eaC (evV 1 rfl) eaN)) ⟨_, _, _, _, rfl, by walk_at "Tp.pre", rfl⟩)) ?_
    refine sv_nil ?_
    walk_at "Tp.nx"
    rw [take_snoc hw, ldR_snoc, ldE_snoc, itD_snoc]
    walk_at "Tp.wk"
  · obtain rfl := hI
    -- return rows[::-1]
    rw [wys_len, ← List.length_reverse (as := l), List.take_length]
    refine sv_ret (evRev (by first | exact (evV 2 rfl).seqT | exact (evV 2 rfl).seq | exact esO 2 rfl | exact EV.seqQ (evV 2 rfl))) ?_
    show Q _
    rw [itD_rev]
    exact hQ
end
end Tp
namespace Tp
open PySem L2
section
variable {P : Program} {w : World} {K : PySem.W.Frag} {mg : Str → Option Value} {base : Heap}
/-! check_rows -/
theorem sc_check_rows : FnScope ["ways", "limits", "amount", "limit"] ["ways", "limits", "amount"] (defScope s_check_rows) := ⟨rfl, rfl, rfl, by decide +kernel, rfl, by decide +kernel, by decide +kernel⟩
theorem ok_check_rows {xs : Xs} {f : Addr} {fd : FuncData} (F : Fun K "check_rows" "check_rows" s_check_rows f fd) (T : Txt K mg xs) : FnOk P w K mg base (L2.CX P w) 1 f fd ["ways", "limits", "amount"] (spD [] K (c_check_rows xs)) := by
  refine fn_d F sc_check_rows (fun ds Q E h => by obtain ⟨_, _, _, _, rfl, _⟩ := h; rfl) fun cdv A outer s H H0 E qs ds Q Ex g hc => ?_
  obtain ⟨tp, wd, L, a, rfl, hQ, hE⟩ := hc
  show SV _ _ _ _ [.im (sqD tp wd), .im (.list (lms L)), .im (.int a), .no] _
  -- if len(ways) > MOST_ROWS or len(limits) > MOST_ROWS or (not 1 <= amount <= MOST):
  refine sv_ifX (EW.t (ewOr (etCmp (EV.h (evLen (by first | exact (evV 0 rfl).seqT | exact (evV 0 rfl).seq | exact esO 0 rfl | exact EV.seqQ (evV 0 rfl)) T.b_len)) (EV.h T.k_MOST_ROWS) cv_gt) fun hb => (ewOr (etCmp (EV.h (evLen (by first | exact (evV 1 rfl).seqT | exact (evV 1 rfl).seq | exact esO 1 rfl | exact EV.seqQ (evV 1 rfl)) T.b_len)) (EV.h T.k_MOST_ROWS) cv_gt) fun hb => (ewOr1 (etNot (etChain (EV.h evI) (by first | exact (evV 2 rfl).h | exact (esO 2 rfl).h) (EV.h T.k_MOST) cv_le cv_le)))))) (fun h47 => ?_) (fun h47 => ?_)
  · skip
    -- raise OutOfBounds()
    refine sv_raise g T.x_OutOfBounds ?_
    refine hE fun z => ?_
    rw [lms_len] at h47
    obtain ⟨z1, z2, z3, _⟩ := z
    walk_at "Tp.bool"
    omega
  · skip
    -- if len({(limit[0], limit[1]) for limit in limits}) < len(limits):
    rw [lms_len] at h47
    have hr : wd.length ≤ 60 ∧ L.length ≤ 60 ∧ (1 ≤ a ∧ a ≤ 1000000000000000) := by
      walk_at "Tp.bool"
      omega
    have hr2 := hr.2.1
    refine sv_ifX (etCmp (EV.h (evLenSc 3 (kf := fun x : Lm => [x.ch, x.gv]) g (by first | exact (evV 1 rfl).seqT | exact (evV 1 rfl).seq | exact esO 1 rfl | exact EV.seqQ (evV 1 rfl)) (by walk_at "Tp.len") (fun s1 H1 C1 cl1 fp1 B1 q1 d1 hd1 => (evTup (eaC (evIx (by first | exact (evV 3 rfl).seqT | exact (evV 3 rfl).seq | exact esO 3 rfl | exact EV.seqQ (evV 3 rfl)) evI (by walk_at "Tp.at")) (eaC (evIx (by first | exact (evV 3 rfl).seqT | exact (evV 3 rfl).seq | exact esO 3 rfl | exact EV.seqQ (evV 3 rfl)) evI (by walk_at "Tp.at")) eaN)))) T.b_len)) (EV.h (evLen (by first | exact (evV 1 rfl).seqT | exact (evV 1 rfl).seq | exact esO 1 rfl | exact EV.seqQ (evV 1 rfl)) T.b_len)) cv_lt) (fun h49 => ?_) (fun h49 => ?_)
    · skip
      -- raise OutOfBounds()
      refine sv_raise g T.x_OutOfBounds ?_
      refine hE fun z => ?_
      have h49 := of_decide_eq_true h49
      rw [lms_len] at h49
      refine (dis_lt (L.map fun x : Lm => [x.ch, x.gv])).mp ?_ (uq_keys.mp z.2.2.2)
      rw [List.length_map]
      omega
    · skip
      refine sv_nil ?_
      refine hQ ⟨hr.1, hr.2.1, hr.2.2, ?_⟩
      rw [lms_len] at h49
      have h49 := of_decide_eq_false h49
      rw [uq_keys]
      exact Decidable.not_not.mp fun z => h49 (by have z2 := (dis_lt _).mpr z; rw [List.length_map] at z2; omega)
end
end Tp
namespace Tp
open PySem L2
section
variable {P : Program} {w : World} {K : PySem.W.Frag} {mg : Str → Option Value} {base : Heap}
/-! without -/
theorem sc_without : FnScope ["limits", "channel", "giver", "limit"] ["limits", "channel", "giver"] (defScope s_without) := ⟨rfl, rfl, rfl, by decide +kernel, rfl, by decide +kernel, by decide +kernel⟩
theorem ok_without {xs : Xs} {f : Addr} {fd : FuncData} (F : Fun K "without" "without" s_without f fd) (T : Txt K mg xs) : FnOk P w K mg base (L2.CX P w) 1 f fd ["limits", "channel", "giver"] (spD [] K (c_without xs)) := by
  refine fn_d F sc_without (fun ds Q E h => by obtain ⟨_, _, _, rfl, _⟩ := h; rfl) fun cdv A outer s H H0 E qs ds Q Ex g hc => ?_
  obtain ⟨L, c, gv, rfl, hpre, hQ⟩ := hc
  show SV _ _ _ _ [.im (.list (lms L)), .im (.int c), .im (.int gv), .no] _
  -- return [limit for limit in limits if limit[0] != channel or limit[1] != giver]
  refine sv_retE (LcD.en (evLcQ 3 g (by first | exact (evV 0 rfl).seqT | exact (evV 0 rfl).seq | exact esO 0 rfl | exact EV.seqQ (evV 0 rfl)) (by walk_at "Tp.len") (ltq_one fun s2 H2 C2 cl2 fp2 B2 q2 d2 hd2 => (EW.t (ewOr (etCmp (EV.h (evIx (by first | exact (evV 3 rfl).seqT | exact (evV 3 rfl).seq | exact esO 3 rfl | exact EV.seqQ (evV 3 rfl)) evI (by walk_at "Tp.at"))) (by first | exact (evV 1 rfl).h | exact (esO 1 rfl).h) (by walk_at "Tp.ne")) fun hb => (ewOr1 (etCmp (EV.h (evIx (by first | exact (evV 3 rfl).seqT | exact (evV 3 rfl).seq | exact esO 3 rfl | exact EV.seqQ (evV 3 rfl)) evI (by walk_at "Tp.at"))) (by first | exact (evV 2 rfl).h | exact (esO 2 rfl).h) (by walk_at "Tp.ne")))))) (fun s2 H2 C2 cl2 fp2 B2 q2 d2 hd2 hb2 => (evV 3 rfl)))) ?_
  show Q _
  refine rt_is hQ (congrArg Rs.nl ?_)
  exact congrArg (List.map lmD) (List.filter_congr fun m _ => by simp [isL])
end
end Tp
namespace Tp
open PySem L2
section
variable {P : Program} {w : World} {K : PySem.W.Frag} {mg : Str → Option Value} {base : Heap}
/-! carried -/
theorem sc_carried : FnScope ["limits", "way", "load", "old", "sure", "below"] ["limits", "way", "load"] (defScope s_carried) := ⟨rfl, rfl, rfl, by decide +kernel, rfl, by decide +kernel, by decide +kernel⟩
theorem ok_carried {xs : Xs} {f : Addr} {fd : FuncData} (F : Fun K "carried" "carried" s_carried f fd) (T : Txt K mg xs) (C_limit_of : Cal P w [] K mg base "limit_of" 1 (c_limit_of xs)) (C_without : Cal P w [] K mg base "without" 1 (c_without xs)) : FnOk P w K mg base (L2.CX P w) 2 f fd ["limits", "way", "load"] (spD [] K (c_carried xs)) := by
  refine fn_d F sc_carried (fun ds Q E h => by obtain ⟨_, _, _, rfl, _⟩ := h; rfl) fun cdv A outer s H H0 E qs ds Q Ex g hc => ?_
  obtain ⟨L, w, x, rfl, hpre, hQ⟩ := hc
  show SV _ _ _ _ [.im (.list (lms L)), .im (wyD w), .im (.int x), .no, .no, .no] _
  -- old = limit_of(limits, way[0], way[1])
  refine sv_asg 3 g (EC.ev (ecCall g C_limit_of (by decide) (eaC (evV 0 rfl) (eaC (evIx (by first | exact (evV 1 rfl).seqT | exact (evV 1 rfl).seq | exact esO 1 rfl | exact EV.seqQ (evV 1 rfl)) evI (by walk_at "Tp.at")) (eaC (evIx (by first | exact (evV 1 rfl).seqT | exact (evV 1 rfl).seq | exact esO 1 rfl | exact EV.seqQ (evV 1 rfl)) evI (by walk_at "Tp.at")) eaN))) ⟨_, _, _, rfl, rfl⟩)) ?_
  -- sure = load
  have hwl := woL_len L w.ch w.gv
  have hwm := lms_len (woL L w.ch w.gv)
  rcases ho : lmAt L w.ch w.gv with _ | m
  · skip
    show SV _ _ _ _ [_, _, _, .im .none, _, _] _
    -- sure = load
    refine sv_asg 4 g (evV 2 rfl) ?_
    -- below = None
    refine sv_asg 5 g evN ?_
    -- if old is not None:
    refine sv_ifF (etCmp (by first | exact (evV 3 rfl).h | exact (esO 3 rfl).h) (EV.h evN) (by walk_at "Tp.isnot")) ?_
    refine sv_nil ?_
    show SV _ _ _ _ _ _
    -- return [(way[0], way[1], sure, below)] + without(limits, way[0], way[1])
    refine sv_retE (enCatE (evLst (eaC (evTup (eaC (evIx (by first | exact (evV 1 rfl).seqT | exact (evV 1 rfl).seq | exact esO 1 rfl | exact EV.seqQ (evV 1 rfl)) evI (by walk_at "Tp.at")) (eaC (evIx (by first | exact (evV 1 rfl).seqT | exact (evV 1 rfl).seq | exact esO 1 rfl | exact EV.seqQ (evV 1 rfl)) evI (by walk_at "Tp.at")) (eaC (evV 4 rfl) (eaC (evV 5 rfl) eaN))))) eaN)) (EC.evL (ecCall g C_without (by decide) (eaC (evV 0 rfl) (eaC (evIx (by first | exact (evV 1 rfl).seqT | exact (evV 1 rfl).seq | exact esO 1 rfl | exact EV.seqQ (evV 1 rfl)) evI (by walk_at "Tp.at")) (eaC (evIx (by first | exact (evV 1 rfl).seqT | exact (evV 1 rfl).seq | exact esO 1 rfl | exact EV.seqQ (evV 1 rfl)) evI (by walk_at "Tp.at")) eaN))) ⟨_, _, _, rfl, by walk_at "Tp.pre", rfl⟩)) (by walk_at "Tp.len")) ?_
    show Q _
    refine rt_is hQ (congrArg Rs.nl ?_)
    unfold carF caL
    rw [ho]
    rfl
  · skip
    rcases m with ⟨c, gv, lo, be⟩
    show SV _ _ _ _ [_, _, _, .im (.tuple [.int c, .int gv, .int lo, beD be]), _, _] _
    -- sure = load
    refine sv_asg 4 g (evV 2 rfl) ?_
    -- below = None
    refine sv_asg 5 g evN ?_
    -- if old is not None:
    refine sv_ifT (etCmp (by first | exact (evV 3 rfl).h | exact (esO 3 rfl).h) (EV.h evN) (by walk_at "Tp.isnot")) ?_
    -- sure = max(old[2], load)
    refine sv_asg 4 g (evMax (evIx (by first | exact (evV 3 rfl).seqT | exact (evV 3 rfl).seq | exact esO 3 rfl | exact EV.seqQ (evV 3 rfl)) evI (by walk_at "Tp.at")) (evV 2 rfl) g.calm T.b_max) ?_
    -- below = old[3]
    refine sv_asg 5 g (evIx (by first | exact (evV 3 rfl).seqT | exact (evV 3 rfl).seq | exact esO 3 rfl | exact EV.seqQ (evV 3 rfl)) evI (by walk_at "Tp.at")) ?_
    refine sv_nil ?_
    show SV _ _ _ _ _ _
    -- return [(way[0], way[1], sure, below)] + without(limits, way[0], way[1])
    refine sv_retE (enCatE (evLst (eaC (evTup (eaC (evIx (by first | exact (evV 1 rfl).seqT | exact (evV 1 rfl).seq | exact esO 1 rfl | exact EV.seqQ (evV 1 rfl)) evI (by walk_at "Tp.at")) (eaC (evIx (by first | exact (evV 1 rfl).seqT | exact (evV 1 rfl).seq | exact esO 1 rfl | exact EV.seqQ (evV 1 rfl)) evI (by walk_at "Tp.at")) (eaC (evV 4 rfl) (eaC (evV 5 rfl) eaN))))) eaN)) (EC.evL (ecCall g C_without (by decide) (eaC (evV 0 rfl) (eaC (evIx (by first | exact (evV 1 rfl).seqT | exact (evV 1 rfl).seq | exact esO 1 rfl | exact EV.seqQ (evV 1 rfl)) evI (by walk_at "Tp.at")) (eaC (evIx (by first | exact (evV 1 rfl).seqT | exact (evV 1 rfl).seq | exact esO 1 rfl | exact EV.seqQ (evV 1 rfl)) evI (by walk_at "Tp.at")) eaN))) ⟨_, _, _, rfl, by walk_at "Tp.pre", rfl⟩)) (by walk_at "Tp.len")) ?_
    show Q _
    refine rt_is hQ (congrArg Rs.nl ?_)
    unfold carF caL
    rw [ho]
    rfl
end
end Tp
namespace Tp
open PySem L2
section
variable {P : Program} {w : World} {K : PySem.W.Frag} {mg : Str → Option Value} {base : Heap}
/-! stopped -/
theorem sc_stopped : FnScope ["limits", "way", "bound", "old", "sure"] ["limits", "way", "bound"] (defScope s_stopped) := ⟨rfl, rfl, rfl, by decide +kernel, rfl, by decide +kernel, by decide +kernel⟩
theorem ok_stopped {xs : Xs} {f : Addr} {fd : FuncData} (F : Fun K "stopped" "stopped" s_stopped f fd) (T : Txt K mg xs) (C_limit_of : Cal P w [] K mg base "limit_of" 1 (c_limit_of xs)) (C_without : Cal P w [] K mg base "without" 1 (c_without xs)) : FnOk P w K mg base (L2.CX P w) 2 f fd ["limits", "way", "bound"] (spD [] K (c_stopped xs)) := by
  refine fn_d F sc_stopped (fun ds Q E h => by obtain ⟨_, _, _, rfl, _⟩ := h; rfl) fun cdv A outer s H H0 E qs ds Q Ex g hc => ?_
  obtain ⟨L, w, x, rfl, hpre, hQ⟩ := hc
  show SV _ _ _ _ [.im (.list (lms L)), .im (wyD w), .im (.int x), .no, .no] _
  -- old = limit_of(limits, way[0], way[1])
  refine sv_asg 3 g (EC.ev (ecCall g C_limit_of (by decide) (eaC (evV 0 rfl) (eaC (evIx (by first | exact (evV 1 rfl).seqT | exact (evV 1 rfl).seq | exact esO 1 rfl | exact EV.seqQ (evV 1 rfl)) evI (by walk_at "Tp.at")) (eaC (evIx (by first | exact (evV 1 rfl).seqT | exact (evV 1 rfl).seq | exact esO 1 rfl | exact EV.seqQ (evV 1 rfl)) evI (by walk_at "Tp.at")) eaN))) ⟨_, _, _, rfl, rfl⟩)) ?_
  -- sure = 0
  have hwl := woL_len L w.ch w.gv
  have hwm := lms_len (woL L w.ch w.gv)
  rcases ho : lmAt L w.ch w.gv with _ | m
  · skip
    show SV _ _ _ _ [_, _, _, .im .none, _] _
    -- sure = 0
    refine sv_asg 4 g evI ?_
    -- if old is not None:
    refine sv_ifF (etCmp (by first | exact (evV 3 rfl).h | exact (esO 3 rfl).h) (EV.h evN) (by walk_at "Tp.isnot")) ?_
    refine sv_nil ?_
    show SV _ _ _ _ _ _
    -- return [(way[0], way[1], sure, bound)] + without(limits, way[0], way[1])
    refine sv_retE (enCatE (evLst (eaC (evTup (eaC (evIx (by first | exact (evV 1 rfl).seqT | exact (evV 1 rfl).seq | exact esO 1 rfl | exact EV.seqQ (evV 1 rfl)) evI (by walk_at "Tp.at")) (eaC (evIx (by first | exact (evV 1 rfl).seqT | exact (evV 1 rfl).seq | exact esO 1 rfl | exact EV.seqQ (evV 1 rfl)) evI (by walk_at "Tp.at")) (eaC (evV 4 rfl) (eaC (evV 2 rfl) eaN))))) eaN)) (EC.evL (ecCall g C_without (by decide) (eaC (evV 0 rfl) (eaC (evIx (by first | exact (evV 1 rfl).seqT | exact (evV 1 rfl).seq | exact esO 1 rfl | exact EV.seqQ (evV 1 rfl)) evI (by walk_at "Tp.at")) (eaC (evIx (by first | exact (evV 1 rfl).seqT | exact (evV 1 rfl).seq | exact esO 1 rfl | exact EV.seqQ (evV 1 rfl)) evI (by walk_at "Tp.at")) eaN))) ⟨_, _, _, rfl, by walk_at "Tp.pre", rfl⟩)) (by walk_at "Tp.len")) ?_
    show Q _
    refine rt_is hQ (congrArg Rs.nl ?_)
    unfold stpF spL
    rw [ho]
    rfl
  · skip
    rcases m with ⟨c, gv, lo, be⟩
    -- sure = 0
    rcases be with _ | b
    · skip
      show SV _ _ _ _ [_, _, _, .im (.tuple [.int c, .int gv, .int lo, .none]), _] _
      -- sure = 0
      refine sv_asg 4 g evI ?_
      -- if old is not None:
      refine sv_ifT (etCmp (by first | exact (evV 3 rfl).h | exact (esO 3 rfl).h) (EV.h evN) (by walk_at "Tp.isnot")) ?_
      -- sure = old[2]
      refine sv_asg 4 g (evIx (by first | exact (evV 3 rfl).seqT | exact (evV 3 rfl).seq | exact esO 3 rfl | exact EV.seqQ (evV 3 rfl)) evI (by walk_at "Tp.at")) ?_
      -- if old[3] is not None:
      refine sv_ifF (etCmp (EV.h (evIx (by first | exact (evV 3 rfl).seqT | exact (evV 3 rfl).seq | exact esO 3 rfl | exact EV.seqQ (evV 3 rfl)) evI (by walk_at "Tp.at"))) (EV.h evN) (by walk_at "Tp.isnot")) ?_
      refine sv_nil ?_
      show SV _ _ _ _ _ _
      refine sv_nil ?_
      show SV _ _ _ _ _ _
      -- return [(way[0], way[1], sure, bound)] + without(limits, way[0], way[1])
      refine sv_retE (enCatE (evLst (eaC (evTup (eaC (evIx (by first | exact (evV 1 rfl).seqT | exact (evV 1 rfl).seq | exact esO 1 rfl | exact EV.seqQ (evV 1 rfl)) evI (by walk_at "Tp.at")) (eaC (evIx (by first | exact (evV 1 rfl).seqT | exact (evV 1 rfl).seq | exact esO 1 rfl | exact EV.seqQ (evV 1 rfl)) evI (by walk_at "Tp.at")) (eaC (evV 4 rfl) (eaC (evV 2 rfl) eaN))))) eaN)) (EC.evL (ecCall g C_without (by decide) (eaC (evV 0 rfl) (eaC (evIx (by first | exact (evV 1 rfl).seqT | exact (evV 1 rfl).seq | exact esO 1 rfl | exact EV.seqQ (evV 1 rfl)) evI (by walk_at "Tp.at")) (eaC (evIx (by first | exact (evV 1 rfl).seqT | exact (evV 1 rfl).seq | exact esO 1 rfl | exact EV.seqQ (evV 1 rfl)) evI (by walk_at "Tp.at")) eaN))) ⟨_, _, _, rfl, by walk_at "Tp.pre", rfl⟩)) (by walk_at "Tp.len")) ?_
      show Q _
      refine rt_is hQ (congrArg Rs.nl ?_)
      unfold stpF spL
      rw [ho]
      rfl
    · skip
      show SV _ _ _ _ [_, _, _, .im (.tuple [.int c, .int gv, .int lo, .int b]), _] _
      -- sure = 0
      refine sv_asg 4 g evI ?_
      -- if old is not None:
      refine sv_ifT (etCmp (by first | exact (evV 3 rfl).h | exact (esO 3 rfl).h) (EV.h evN) (by walk_at "Tp.isnot")) ?_
      -- sure = old[2]
      refine sv_asg 4 g (evIx (by first | exact (evV 3 rfl).seqT | exact (evV 3 rfl).seq | exact esO 3 rfl | exact EV.seqQ (evV 3 rfl)) evI (by walk_at "Tp.at")) ?_
      -- if old[3] is not None:
      refine sv_ifT (etCmp (EV.h (evIx (by first | exact (evV 3 rfl).seqT | exact (evV 3 rfl).seq | exact esO 3 rfl | exact EV.seqQ (evV 3 rfl)) evI (by walk_at "Tp.at"))) (EV.h evN) (by walk_at "Tp.isnot")) ?_
      -- bound = min(old[3], bound)
      refine sv_asg 2 g (evMin (evIx (by first | exact (evV 3 rfl).seqT | exact (evV 3 rfl).seq | exact esO 3 rfl | exact EV.seqQ (evV 3 rfl)) evI (by walk_at "Tp.at")) (evV 2 rfl) g.calm T.b_min) ?_
      refine sv_nil ?_
      show SV _ _ _ _ _ _
      refine sv_nil ?_
      show SV _ _ _ _ _ _
      -- return [(way[0], way[1], sure, bound)] + without(limits, way[0], way[1])
      refine sv_retE (enCatE (evLst (eaC (evTup (eaC (evIx (by first | exact (evV 1 rfl).seqT | exact (evV 1 rfl).seq | exact esO 1 rfl | exact EV.seqQ (evV 1 rfl)) evI (by walk_at "Tp.at")) (eaC (evIx (by first | exact (evV 1 rfl).seqT | exact (evV 1 rfl).seq | exact esO 1 rfl | exact EV.seqQ (evV 1 rfl)) evI (by walk_at "Tp.at")) (eaC (evV 4 rfl) (eaC (evV 2 rfl) eaN))))) eaN)) (EC.evL (ecCall g C_without (by decide) (eaC (evV 0 rfl) (eaC (evIx (by first | exact (evV 1 rfl).seqT | exact (evV 1 rfl).seq | exact esO 1 rfl | exact EV.seqQ (evV 1 rfl)) evI (by walk_at "Tp.at")) (eaC (evIx (by first | exact (evV 1 rfl).seqT | exact (evV 1 rfl).seq | exact esO 1 rfl | exact EV.seqQ (evV 1 rfl)) evI (by walk_at "Tp.at")) eaN))) ⟨_, _, _, rfl, by walk_at "Tp.pre", rfl⟩)) (by walk_at "Tp.len")) ?_
      show Q _
      refine rt_is hQ (congrArg Rs.nl ?_)
      unfold stpF spL
      rw [ho]
      rfl
end
end Tp
namespace Tp
open PySem L2
section
variable {P : Program} {w : World} {K : PySem.W.Frag} {mg : Str → Option Value} {base : Heap}
/-! taught -/
theorem sc_taught : FnScope ["limits", "route", "rows", "outcome", "channels", "way", "limit", "place", "k"] ["limits", "route", "rows", "outcome"] (defScope s_taught) := ⟨rfl, rfl, rfl, by decide +kernel, rfl, by decide +kernel, by decide +kernel⟩
theorem ok_taught {xs : Xs} {f : Addr} {fd : FuncData} (F : Fun K "taught" "taught" s_taught f fd) (T : Txt K mg xs) (C_stopped : Cal P w [] K mg base "stopped" 2 (c_stopped xs)) (C_carried : Cal P w [] K mg base "carried" 2 (c_carried xs)) : FnOk P w K mg base (L2.CX P w) 3 f fd ["limits", "route", "rows", "outcome"] (spD [] K (c_taught xs)) := by
  refine fn_d F sc_taught (fun ds Q E h => by obtain ⟨_, _, _, _, rfl, _⟩ := h; rfl) fun cdv A outer s H H0 E qs ds Q Ex g hc => ?_
  obtain ⟨L, l, xs, o, rfl, hpre, hQ⟩ := hc
  show SV _ _ _ _ [.im (.list (lms L)), .im (.tuple (wys l)), .im (.list (itD xs)), .im (ocD o), .no, .no, .no, .no, .no] _
  -- if outcome[0] == 'passed':
  obtain ⟨ho, hx, hl, hL⟩ := hpre
  rcases o with _ | p | p
  · skip
    show SV _ _ _ _ [_, _, _, .im (.tuple [.str "passed"]), _, _, _, _, _] _
    -- if outcome[0] == 'passed':
    refine sv_ifT (etCmp (EV.h (evIx (by first | exact (evV 3 rfl).seqT | exact (evV 3 rfl).seq | exact esO 3 rfl | exact EV.seqQ (evV 3 rfl)) evI (by walk_at "Tp.at"))) (EV.h evStr) (by walk_at "Tp.eq")) ?_
    -- channels = [way[0] for way in route]
    refine sv_asg 4 g (LcD.ev (evLcQ 5 g (by first | exact (evV 1 rfl).seqT | exact (evV 1 rfl).seq | exact esO 1 rfl | exact EV.seqQ (evV 1 rfl)) (by walk_at "Tp.len") ltq_nil (fun s3 H3 C3 cl3 fp3 B3 q3 d3 hd3 hb3 => (evIx (by first | exact (evV 5 rfl).seqT | exact (evV 5 rfl).seq | exact esO 5 rfl | exact EV.seqQ (evV 5 rfl)) evI (by walk_at "Tp.at"))))) ?_
    -- return [limit for limit in limits if limit[0] not in channels]
    refine sv_retE (LcD.en (evLcQ 6 g (by first | exact (evV 0 rfl).seqT | exact (evV 0 rfl).seq | exact esO 0 rfl | exact EV.seqQ (evV 0 rfl)) (by walk_at "Tp.len") (ltq_one fun s4 H4 C4 cl4 fp4 B4 q4 d4 hd4 => (etCmp (EV.h (evIx (by first | exact (evV 6 rfl).seqT | exact (evV 6 rfl).seq | exact esO 6 rfl | exact EV.seqQ (evV 6 rfl)) evI (by walk_at "Tp.at"))) (by first | exact (evV 4 rfl).h | exact (esO 4 rfl).h) (by first | exact cv_ninI (f := fun w : Wy => w.ch) (Go.blk g) | exact cv_ninD (Go.blk g).un65 (by walk_at "Tp.shp") (by walk_at "Tp.shp")))) (fun s4 H4 C4 cl4 fp4 B4 q4 d4 hd4 hb4 => (evV 6 rfl)))) ?_
    show Q _
    refine rt_is hQ (congrArg Rs.nl ?_)
    exact congrArg (List.map lmD) (List.filter_congr fun m _ => by rw [List.filter_eq_self.mpr (fun _ _ => rfl)])
  · skip
    show SV _ _ _ _ [_, _, _, .im (.tuple [.str "lacks", .int p]), _, _, _, _, _] _
    have hp : 0 ≤ p ∧ p ≤ 100000 := ho
    -- if outcome[0] == 'passed':
    refine sv_ifF (etCmp (EV.h (evIx (by first | exact (evV 3 rfl).seqT | exact (evV 3 rfl).seq | exact esO 3 rfl | exact EV.seqQ (evV 3 rfl)) evI (by walk_at "Tp.at"))) (EV.h evStr) (by walk_at "Tp.eq")) ?_
    refine sv_nil ?_
    show SV _ _ _ _ _ _
    -- place = outcome[1]
    refine sv_asg 7 g (evIx (by first | exact (evV 3 rfl).seqT | exact (evV 3 rfl).seq | exact esO 3 rfl | exact EV.seqQ (evV 3 rfl)) evI (by walk_at "Tp.at")) ?_
    -- if place >= len(route):
    refine sv_ifX (etCmp (by first | exact (evV 7 rfl).h | exact (esO 7 rfl).h) (EV.h (evLen (by first | exact (evV 1 rfl).seqT | exact (evV 1 rfl).seq | exact esO 1 rfl | exact EV.seqQ (evV 1 rfl)) T.b_len)) cv_ge) (fun h75 => ?_) (fun h75 => ?_)
    · skip
      -- return list(limits)
      refine sv_retE (enList (by first | exact (evV 0 rfl).seqT | exact (evV 0 rfl).seq | exact esO 0 rfl | exact EV.seqQ (evV 0 rfl)) T.b_list) ?_
      show Q _
      refine rt_is hQ (congrArg Rs.nl ?_)
      have h75 := of_decide_eq_true h75
      rw [wys_len] at h75
      first | rw [tau_la, if_pos h75] | rw [tau_re, if_pos h75]
    · skip
      -- for k in range(place):
      have h75 := of_decide_eq_false h75
      rw [wys_len] at h75
      have hcl := crd_len L l xs p.toNat
      refine sv_forR (fun i r' => r' = [.im (.list (lms (crd L l xs i))), .im (.tuple (wys l)), .im (.list (itD xs)), .im (.tuple [.str "lacks", .int p]), .no, .no, .no, .im (.int p), .no]) (fun i r' => r'.set 8 (.im (.int (i : Int)))) g (evV 7 rfl) (by walk_at "Tp.rng") T.b_range (fun _ _ => gt_name 8 g.nd) ?_ (fun i r' hi hI => ?_) (fun r' hI => ?_)
      · exact rfl
      · obtain rfl := hI
        have hcl := crd_len L l xs i
        -- limits = carried(limits, route[k], rows[k])
        refine sv_asg 0 g (EC.evL (ecCall g C_carried (by decide) (eaC (evV 0 rfl) (eaC (evIx (by first | exact (evV 1 rfl).seqT | exact (evV 1 rfl).seq | exact esO 1 rfl | exact EV.seqQ (evV 1 rfl)) (evV 8 rfl) (by walk_at "Tp.at")) (eaC (evIx (by first | exact (evV 2 rfl).seqT | exact (evV 2 rfl).seq | exact esO 2 rfl | exact EV.seqQ (evV 2 rfl)) (evV 8 rfl) (by walk_at "Tp.at")) eaN))) ⟨_, _, _, rfl, by walk_at "Tp.pre", rfl⟩)) ?_
        refine sv_nil ?_
        walk_at "Tp.step"
      · obtain rfl := hI
        -- if outcome[0] == 'refuses':
        refine sv_ifF (etCmp (EV.h (evIx (by first | exact (evV 3 rfl).seqT | exact (evV 3 rfl).seq | exact esO 3 rfl | exact EV.seqQ (evV 3 rfl)) evI (by walk_at "Tp.at"))) (EV.h evStr) (by walk_at "Tp.eq")) ?_
        refine sv_nil ?_
        show SV _ _ _ _ _ _
        -- return stopped(limits, route[place], rows[place])
        refine sv_retC (Po := fun s => s = _) (Ex := fun _ => False) (ecCall g C_stopped (by decide) (eaC (evV 0 rfl) (eaC (evIx (by first | exact (evV 1 rfl).seqT | exact (evV 1 rfl).seq | exact esO 1 rfl | exact EV.seqQ (evV 1 rfl)) (evV 7 rfl) (by walk_at "Tp.at")) (eaC (evIx (by first | exact (evV 2 rfl).seqT | exact (evV 2 rfl).seq | exact esO 2 rfl | exact EV.seqQ (evV 2 rfl)) (evV 7 rfl) (by walk_at "Tp.at")) eaN))) ⟨_, _, _, rfl, by walk_at "Tp.pre", rfl⟩) (fun s hs => ?_) (fun _ z => z.elim)
        subst hs
        show Q _
        refine rt_is hQ (congrArg Rs.nl ?_)
        first | rw [tau_la, if_neg h75] | rw [tau_re, if_neg h75]
  · skip
    show SV _ _ _ _ [_, _, _, .im (.tuple [.str "refuses", .int p]), _, _, _, _, _] _
    have hp : 0 ≤ p ∧ p ≤ 100000 := ho
    -- if outcome[0] == 'passed':
    refine sv_ifF (etCmp (EV.h (evIx (by first | exact (evV 3 rfl).seqT | exact (evV 3 rfl).seq | exact esO 3 rfl | exact EV.seqQ (evV 3 rfl)) evI (by walk_at "Tp.at"))) (EV.h evStr) (by walk_at "Tp.eq")) ?_
    refine sv_nil ?_
    show SV _ _ _ _ _ _
    -- place = outcome[1]
    refine sv_asg 7 g (evIx (by first | exact (evV 3 rfl).seqT | exact (evV 3 rfl).seq | exact esO 3 rfl | exact EV.seqQ (evV 3 rfl)) evI (by walk_at "Tp.at")) ?_
    -- if place >= len(route):
    refine sv_ifX (etCmp (by first | exact (evV 7 rfl).h | exact (esO 7 rfl).h) (EV.h (evLen (by first | exact (evV 1 rfl).seqT | exact (evV 1 rfl).seq | exact esO 1 rfl | exact EV.seqQ (evV 1 rfl)) T.b_len)) cv_ge) (fun h75 => ?_) (fun h75 => ?_)
    · skip
      -- return list(limits)
      refine sv_retE (enList (by first | exact (evV 0 rfl).seqT | exact (evV 0 rfl).seq | exact esO 0 rfl | exact EV.seqQ (evV 0 rfl)) T.b_list) ?_
      show Q _
      refine rt_is hQ (congrArg Rs.nl ?_)
      have h75 := of_decide_eq_true h75
      rw [wys_len] at h75
      first | rw [tau_la, if_pos h75] | rw [tau_re, if_pos h75]
    · skip
      -- for k in range(place):
      have h75 := of_decide_eq_false h75
      rw [wys_len] at h75
      have hcl := crd_len L l xs p.toNat
      refine sv_forR (fun i r' => r' = [.im (.list (lms (crd L l xs i))), .im (.tuple (wys l)), .im (.list (itD xs)), .im (.tuple [.str "refuses", .int p]), .no, .no, .no, .im (.int p), .no]) (fun i r' => r'.set 8 (.im (.int (i : Int)))) g (evV 7 rfl) (by walk_at "Tp.rng") T.b_range (fun _ _ => gt_name 8 g.nd) ?_ (fun i r' hi hI => ?_) (fun r' hI => ?_)
      · exact rfl
      · obtain rfl := hI
        have hcl := crd_len L l xs i
        -- limits = carried(limits, route[k], rows[k])
        refine sv_asg 0 g (EC.evL (ecCall g C_carried (by decide) (eaC (evV 0 rfl) (eaC (evIx (by first | exact (evV 1 rfl).seqT | exact (evV 1 rfl).seq | exact esO 1 rfl | exact EV.seqQ (evV 1 rfl)) (evV 8 rfl) (by walk_at "Tp.at")) (eaC (evIx (by first | exact (evV 2 rfl).seqT | exact (evV 2 rfl).seq | exact esO 2 rfl | exact EV.seqQ (evV 2 rfl)) (evV 8 rfl) (by walk_at "Tp.at")) eaN))) ⟨_, _, _, rfl, by walk_at "Tp.pre", rfl⟩)) ?_
        refine sv_nil ?_
        walk_at "Tp.step"
      · obtain rfl := hI
        -- if outcome[0] == 'refuses':
        refine sv_ifT (etCmp (EV.h (evIx (by first | exact (evV 3 rfl).seqT | exact (evV 3 rfl).seq | exact esO 3 rfl | exact EV.seqQ (evV 3 rfl)) evI (by walk_at "Tp.at"))) (EV.h evStr) (by walk_at "Tp.eq")) ?_
        -- return stopped(limits, route[place], 0)
        refine sv_retC (Po := fun s => s = _) (Ex := fun _ => False) (ecCall g C_stopped (by decide) (eaC (evV 0 rfl) (eaC (evIx (by first | exact (evV 1 rfl).seqT | exact (evV 1 rfl).seq | exact esO 1 rfl | exact EV.seqQ (evV 1 rfl)) (evV 7 rfl) (by walk_at "Tp.at")) (eaC evI eaN))) ⟨_, _, _, rfl, by walk_at "Tp.pre", rfl⟩) (fun s hs => ?_) (fun _ z => z.elim)
        subst hs
        show Q _
        refine rt_is hQ (congrArg Rs.nl ?_)
        first | rw [tau_la, if_neg h75] | rw [tau_re, if_neg h75]
end
end Tp
namespace Tp
open PySem L2
section
variable {P : Program} {w : World} {K : PySem.W.Frag} {mg : Str → Option Value} {base : Heap}
/-! learn -/
theorem sc_learn : FnScope ["limits", "route", "amount", "outcome", "rows", "load"] ["limits", "route", "amount", "outcome"] (defScope s_learn) := ⟨rfl, rfl, rfl, by decide +kernel, rfl, by decide +kernel, by decide +kernel⟩
theorem ok_learn {xs : Xs} {f : Addr} {fd : FuncData} (F : Fun K "learn" "learn" s_learn f fd) (T : Txt K mg xs) (C_check_rows : Cal P w [] K mg base "check_rows" 1 (c_check_rows xs)) (C_loads : Cal P w [] K mg base "loads" 2 (c_loads xs)) (C_taught : Cal P w [] K mg base "taught" 3 (c_taught xs)) : FnOk P w K mg base (L2.CX P w) 4 f fd ["limits", "route", "amount", "outcome"] (spD [] K (c_learn xs)) := by
  refine fn_d F sc_learn (fun ds Q E h => by obtain ⟨_, _, _, _, rfl, _⟩ := h; rfl) fun cdv A outer s H H0 E qs ds Q Ex g hc => ?_
  obtain ⟨L, l, a, o, rfl, ⟨hw, ho, hl, hL⟩, hQ, hE, hM⟩ := hc
  show SV _ _ _ _ [.im (.list (lms L)), .im (.tuple (wys l)), .im (.int a), .im (ocD o), .no, .no] _
  -- check_rows(route, limits, amount)
  by_cases hr : rowsOk (wys l).length L a
  · skip
    skip
    -- check_rows(route, limits, amount)
    refine sv_dropC (Po := fun _ => True) (Ex := fun _ => False) (ecCall g C_check_rows (by decide) (eaC (evV 1 rfl) (eaC (evV 0 rfl) (eaC (evV 2 rfl) eaN))) ⟨true, wys l, L, a, rfl, fun _ => trivial, fun z => absurd hr z⟩) ?_ (fun _ z => z.elim)
    -- rows = loads(route, amount)
    rw [wys_len] at hr
    refine sv_asg 4 g (EC.ev (ecCall g C_loads (by decide) (eaC (evV 1 rfl) (eaC (evV 2 rfl) eaN)) ⟨_, _, rfl, ⟨hw, hl⟩, rfl⟩)) ?_
    -- for load in rows:
    refine sv_forL (fun i r' => (∀ x ∈ (ldR a l.reverse).reverse.take i, x ≤ 1000000000000000) ∧ r' = [.im (.list (lms L)), .im (.tuple (wys l)), .im (.int a), .im (ocD o), .im (.list (itD (ldR a l.reverse).reverse)), .no]) ((fun d r' => r'.set 5 (.im d))) g (evV 4 rfl) (fun _ i d r' hi => gt_name 5 g.nd) ?_ (fun B1 i d r' hi hI => ?_) (fun r' hI => ?_)
    · exact ⟨fun x hx => by simp at hx, rfl⟩
    · obtain ⟨hle, rfl⟩ := hI
      obtain ⟨x, hx, rfl⟩ := map_at hi
      -- if load > MOST:
      refine sv_ifX (etCmp (by first | exact (evV 5 rfl).h | exact (esO 5 rfl).h) (EV.h T.k_MOST) cv_gt) (fun h86 => ?_) (fun h86 => ?_)
      · skip
        -- raise TooMuchMoney()
        refine sv_raise g T.x_TooMuchMoney ?_
        refine hM hr fun z => ?_
        have h86 := of_decide_eq_true h86
        have := z x (List.mem_reverse.mp (List.mem_of_getElem? hx))
        omega
      · skip
        refine sv_nil ?_
        walk_at "Tp.nx2"
        · walk_at "Tp.wk"
        · intro y hy
          rw [take_snoc hx] at hy
          rcases List.mem_append.mp hy with hy | hy
          · exact hle y hy
          · cases List.mem_singleton.mp hy
            exact Int.not_lt.mp (of_decide_eq_false h86)
    · obtain ⟨hle, rfl⟩ := hI
      -- return taught(limits, route, rows, outcome)
      refine sv_retC (Po := fun s => s = _) (Ex := fun _ => False) (ecCall g C_taught (by decide) (eaC (evV 0 rfl) (eaC (evV 1 rfl) (eaC (evV 4 rfl) (eaC (evV 3 rfl) eaN)))) ⟨_, _, _, _, rfl, ⟨ho, by rw [List.length_reverse, ldR_len, List.length_reverse], hl, hL⟩, rfl⟩) (fun s hs => ?_) (fun _ z => z.elim)
      subst hs
      show Q _
      refine hQ hr fun x hx => ?_
      rw [itD_len, List.take_length] at hle
      exact hle x (List.mem_reverse.mpr hx)
  · skip
    skip
    -- check_rows(route, limits, amount)
    refine sv_dropX (Ex := fun C => C = xs.OutOfBounds) (EC.exc (ecCall g C_check_rows (by decide) (eaC (evV 1 rfl) (eaC (evV 0 rfl) (eaC (evV 2 rfl) eaN))) ⟨true, wys l, L, a, rfl, fun z => absurd z hr, fun _ => rfl⟩)) (fun C hC => ?_)
    subst hC
    rw [wys_len] at hr
    exact hE hr
end
end Tp
namespace Tp
open PySem L2
section
variable {P : Program} {w : World} {K : PySem.W.Frag} {mg : Str → Option Value} {base : Heap}
/-! check_request -/
theorem sc_check_request : FnScope ["ways", "limits", "request"] ["ways", "limits", "request"] (defScope s_check_request) := ⟨rfl, rfl, rfl, by decide +kernel, rfl, by decide +kernel, by decide +kernel⟩
theorem ok_check_request {xs : Xs} {f : Addr} {fd : FuncData} (F : Fun K "check_request" "check_request" s_check_request f fd) (T : Txt K mg xs) (C_check_rows : Cal P w [] K mg base "check_rows" 1 (c_check_rows xs)) : FnOk P w K mg base (L2.CX P w) 2 f fd ["ways", "limits", "request"] (spD [] K (c_check_request xs)) := by
  refine fn_d F sc_check_request (fun ds Q E h => by obtain ⟨_, _, _, _, _, _, _, rfl, _⟩ := h; rfl) fun cdv A outer s H H0 E qs ds Q Ex g hc => ?_
  obtain ⟨tp, wd, L, s, t, a, hops, rfl, hQ, hE⟩ := hc
  show SV _ _ _ _ [.im (sqD tp wd), .im (.list (lms L)), .im (.tuple [s, t, .int a, .int hops])] _
  -- check_rows(ways, limits, request[2])
  by_cases hr : rowsOk wd.length L a
  · skip
    skip
    -- check_rows(ways, limits, request[2])
    refine sv_dropC (Po := fun _ => True) (Ex := fun _ => False) (ecCall g C_check_rows (by decide) (eaC (evV 0 rfl) (eaC (evV 1 rfl) (eaC (evIx (by first | exact (evV 2 rfl).seqT | exact (evV 2 rfl).seq | exact esO 2 rfl | exact EV.seqQ (evV 2 rfl)) evI (by walk_at "Tp.at")) eaN))) ⟨tp, wd, L, a, rfl, fun _ => trivial, fun z => absurd hr z⟩) ?_ (fun _ z => z.elim)
    -- if not 1 <= request[3] <= MOST_HOPS:
    refine sv_ifX (etNot (etChain (EV.h evI) (EV.h (evIx (by first | exact (evV 2 rfl).seqT | exact (evV 2 rfl).seq | exact esO 2 rfl | exact EV.seqQ (evV 2 rfl)) evI (by walk_at "Tp.at"))) (EV.h T.k_MOST_HOPS) cv_le cv_le)) (fun h92 => ?_) (fun h92 => ?_)
    · skip
      -- raise OutOfBounds()
      refine sv_raise g T.x_OutOfBounds ?_
      refine hE fun z => ?_
      obtain ⟨_, z2, z3⟩ := z
      walk_at "Tp.bool"
      omega
    · skip
      refine sv_nil ?_
      walk_at "Tp.bool"
      exact hQ ⟨hr, by omega, by omega⟩
  · skip
    skip
    -- check_rows(ways, limits, request[2])
    refine sv_dropX (Ex := fun C => C = xs.OutOfBounds) (EC.exc (ecCall g C_check_rows (by decide) (eaC (evV 0 rfl) (eaC (evV 1 rfl) (eaC (evIx (by first | exact (evV 2 rfl).seqT | exact (evV 2 rfl).seq | exact esO 2 rfl | exact EV.seqQ (evV 2 rfl)) evI (by walk_at "Tp.at")) eaN))) ⟨tp, wd, L, a, rfl, fun z => absurd z hr, fun _ => rfl⟩)) (fun C hC => ?_)
    subst hC
    exact hE fun z => hr z.1
end
end Tp
namespace Tp
open PySem L2
section
variable {P : Program} {w : World} {K : PySem.W.Frag} {mg : Str → Option Value} {base : Heap}
/-! best_way -/
theorem sc_best_way : FnScope ["ways", "limits", "giver", "known", "best", "way", "amount", "rest", "needed"] ["ways", "limits", "giver", "known"] (defScope s_best_way) := ⟨rfl, rfl, rfl, by decide +kernel, rfl, by decide +kernel, by decide +kernel⟩
theorem ok_best_way {xs : Xs} {f : Addr} {fd : FuncData} (F : Fun K "best_way" "best_way" s_best_way f fd) (T : Txt K mg xs) (C_may_carry : Cal P w [] K mg base "may_carry" 2 (c_may_carry xs)) (C_must_come_in : Cal P w [] K mg base "must_come_in" 1 (c_must_come_in xs)) : FnOk P w K mg base (L2.CX P w) 3 f fd ["ways", "limits", "giver", "known"] (spD [] K (c_best_way xs)) := by
  refine fn_d F sc_best_way (fun ds Q E h => by obtain ⟨_, _, _, _, rfl, _⟩ := h; rfl) fun cdv A outer s H H0 E qs ds Q Ex g hc => ?_
  obtain ⟨ws, L, gv, m, rfl, hpre, hQ⟩ := hc
  show SV _ _ _ _ [.im (.list (wys ws)), .im (.list (lms L)), .im (.int gv), .im (.dict ((gnv enD m).map kdm)), .no, .no, .no, .no, .no] _
  -- best = None
  refine sv_asg 4 g evN ?_
  -- for way in ways:
  refine sv_forL (fun i r' => r' = [.im (.list (wys ws)), .im (.list (lms L)), .im (.int gv), .im (.dict ((gnv enD m).map kdm)), .im (obD ((ws.take i).foldl (bestS L gv m) none)), .no, .no, .no, .no]) ((fun d r' => r'.set 5 (.im d))) g (evV 0 rfl) (fun _ i d r' hi => gt_name 5 g.nd) ?_ (fun B1 i d r' hi hI => ?_) (fun r' hI => ?_)
  · exact rfl
  · obtain rfl := hI
    obtain ⟨w, hw, rfl⟩ := map_at hi
    -- if way[1] == giver and way[2] in known:
    rcases hb : (ws.take i).foldl (bestS L gv m) none with _ | x
    · skip
      show SV _ _ _ _ [_, _, _, _, .im (.none), _, _, _, _] _
      -- if way[1] == giver and way[2] in known:
      refine sv_if (EW.t (ewAnd (etCmp (EV.h (evIx (by first | exact (evV 5 rfl).seqT | exact (evV 5 rfl).seq | exact esO 5 rfl | exact EV.seqQ (evV 5 rfl)) evI (by walk_at "Tp.at"))) (by first | exact (evV 2 rfl).h | exact (esO 2 rfl).h) (by walk_at "Tp.eq")) fun hb => (ewAnd1 (etTDin g (EV.key (evIx (by first | exact (evV 5 rfl).seqT | exact (evV 5 rfl).seq | exact esO 5 rfl | exact EV.seqQ (evV 5 rfl)) evI (by walk_at "Tp.at"))) (by first | exact EV.dct (evV 3 rfl) | exact ekO 3 rfl))))) (fun h97 => ?_) (fun h97 => ?_)
      · skip
        -- amount, rest = known[way[2]]
        have hit := hit_is h97
        have hlk := lk_get (f := enD) dEn (show (lkK (gnv enD m) (Sum.inl w.tk)).isSome = true from (Bool.and_eq_true_iff.mp h97).2)
        have hrl : (ent w m).2.length ≤ 5000 := hpre.2 _ (ent_mem hit).1
        have hws := wys_len (ent w m).2
        have hs := (hpre.1 w (List.mem_of_getElem? hw)).s
        have hc : CMul (ent w m).1 w.t.s := Or.inr ⟨by omega, by omega⟩
        refine sv_asgT (evDix g (by first | exact EV.dct (evV 3 rfl) | exact ekO 3 rfl) (EV.key (evIx (by first | exact (evV 5 rfl).seqT | exact (evV 5 rfl).seq | exact esO 5 rfl | exact EV.seqQ (evV 5 rfl)) evI (by walk_at "Tp.at"))) (by walk_at "Tp.look")) (gt_tup g.calm (gts_cons 6 g.nd (gts_cons 7 g.nd gts_nil))) ?_
        -- if may_carry(way, amount, limits):
        show SV _ _ _ _ [_, _, _, _, _, _, .im (.int (ent w m).1), .im (.tuple (wys (ent w m).2)), _] _
        refine sv_if (etV (EC.ev (ecCall g C_may_carry (by decide) (eaC (evV 5 rfl) (eaC (evV 6 rfl) (eaC (evV 1 rfl) eaN))) ⟨_, _, _, rfl, rfl⟩))) (fun h99 => ?_) (fun h99 => ?_)
        · skip
          -- needed = must_come_in(way[3], amount)
          refine sv_asg 8 g (EC.ev (ecCall g C_must_come_in (by decide) (eaC (evIx (by first | exact (evV 5 rfl).seqT | exact (evV 5 rfl).seq | exact esO 5 rfl | exact EV.seqQ (evV 5 rfl)) evI (by walk_at "Tp.at")) (eaC (evV 6 rfl) eaN)) ⟨_, _, _, _, rfl, by walk_at "Tp.pre", rfl⟩)) ?_
          -- if best is None or needed < best[0]:
          refine sv_if (EW.t (by first | exact ewOrT (etCmp (by first | exact (evV 4 rfl).h | exact (esO 4 rfl).h) (EV.h evN) (by walk_at "Tp.is")) | exact ewOr (etCmp (by first | exact (evV 4 rfl).h | exact (esO 4 rfl).h) (EV.h evN) (by walk_at "Tp.is")) fun hb => (ewOr1 (etCmp (by first | exact (evV 8 rfl).h | exact (esO 8 rfl).h) (EV.h (evIx (by first | exact (evV 4 rfl).seqT | exact (evV 4 rfl).seq | exact esO 4 rfl | exact EV.seqQ (evV 4 rfl)) evI (by walk_at "Tp.at"))) cv_lt)))) (fun h101 => ?_) (fun h101 => ?_)
          · skip
            -- best = (needed, (way,) + rest)
            refine sv_asg 4 g (evTup (eaC (evV 8 rfl) (eaC (evBin (evTup (eaC (evV 5 rfl) eaN)) (evV 7 rfl) (by walk_at "Tp.add")) eaN))) ?_
            refine sv_nil ?_
            show SV _ _ _ _ _ _
            refine sv_nil ?_
            show SV _ _ _ _ _ _
            refine sv_nil ?_
            show SV _ _ _ _ _ _
            refine sv_nil ?_
            first
            | (exfalso; cases h101; done)
            | (walk_at "Tp.nx"; rw [fold_take hw, hb]; first | (rw [bs_no (hit_is h97)]; walk_at "Tp.wk") | (rw [bs_nc hit h99]; walk_at "Tp.wk") | (rw [bs_new0 hit h99]; walk_at "Tp.wk") | (rw [bs_new (x := (x0, x1)) hit h99 h101]; walk_at "Tp.wk") | (rw [bs_old (x := (x0, x1)) hit h99 h101]; walk_at "Tp.wk"))
          · skip
            refine sv_nil ?_
            show SV _ _ _ _ _ _
            refine sv_nil ?_
            show SV _ _ _ _ _ _
            refine sv_nil ?_
            show SV _ _ _ _ _ _
            refine sv_nil ?_
            first
            | (exfalso; cases h101; done)
            | (walk_at "Tp.nx"; rw [fold_take hw, hb]; first | (rw [bs_no (hit_is h97)]; walk_at "Tp.wk") | (rw [bs_nc hit h99]; walk_at "Tp.wk") | (rw [bs_new0 hit h99]; walk_at "Tp.wk") | (rw [bs_new (x := (x0, x1)) hit h99 h101]; walk_at "Tp.wk") | (rw [bs_old (x := (x0, x1)) hit h99 h101]; walk_at "Tp.wk"))
        · skip
          refine sv_nil ?_
          show SV _ _ _ _ _ _
          refine sv_nil ?_
          show SV _ _ _ _ _ _
          refine sv_nil ?_
          first
          | (exfalso; cases h101; done)
          | (walk_at "Tp.nx"; rw [fold_take hw, hb]; first | (rw [bs_no (hit_is h97)]; walk_at "Tp.wk") | (rw [bs_nc hit h99]; walk_at "Tp.wk") | (rw [bs_new0 hit h99]; walk_at "Tp.wk") | (rw [bs_new (x := (x0, x1)) hit h99 h101]; walk_at "Tp.wk") | (rw [bs_old (x := (x0, x1)) hit h99 h101]; walk_at "Tp.wk"))
      · skip
        refine sv_nil ?_
        show SV _ _ _ _ _ _
        refine sv_nil ?_
        first
        | (exfalso; cases h101; done)
        | (walk_at "Tp.nx"; rw [fold_take hw, hb]; first | (rw [bs_no (hit_is h97)]; walk_at "Tp.wk") | (rw [bs_nc hit h99]; walk_at "Tp.wk") | (rw [bs_new0 hit h99]; walk_at "Tp.wk") | (rw [bs_new (x := (x0, x1)) hit h99 h101]; walk_at "Tp.wk") | (rw [bs_old (x := (x0, x1)) hit h99 h101]; walk_at "Tp.wk"))
    · skip
      rcases x with ⟨x0, x1⟩
      show SV _ _ _ _ [_, _, _, _, .im (.tuple [.int x0, .tuple (wys x1)]), _, _, _, _] _
      -- if way[1] == giver and way[2] in known:
      refine sv_if (EW.t (ewAnd (etCmp (EV.h (evIx (by first | exact (evV 5 rfl).seqT | exact (evV 5 rfl).seq | exact esO 5 rfl | exact EV.seqQ (evV 5 rfl)) evI (by walk_at "Tp.at"))) (by first | exact (evV 2 rfl).h | exact (esO 2 rfl).h) (by walk_at "Tp.eq")) fun hb => (ewAnd1 (etTDin g (EV.key (evIx (by first | exact (evV 5 rfl).seqT | exact (evV 5 rfl).seq | exact esO 5 rfl | exact EV.seqQ (evV 5 rfl)) evI (by walk_at "Tp.at"))) (by first | exact EV.dct (evV 3 rfl) | exact ekO 3 rfl))))) (fun h97 => ?_) (fun h97 => ?_)
      · skip
        -- amount, rest = known[way[2]]
        have hit := hit_is h97
        have hlk := lk_get (f := enD) dEn (show (lkK (gnv enD m) (Sum.inl w.tk)).isSome = true from (Bool.and_eq_true_iff.mp h97).2)
        have hrl : (ent w m).2.length ≤ 5000 := hpre.2 _ (ent_mem hit).1
        have hws := wys_len (ent w m).2
        have hs := (hpre.1 w (List.mem_of_getElem? hw)).s
        have hc : CMul (ent w m).1 w.t.s := Or.inr ⟨by omega, by omega⟩
        refine sv_asgT (evDix g (by first | exact EV.dct (evV 3 rfl) | exact ekO 3 rfl) (EV.key (evIx (by first | exact (evV 5 rfl).seqT | exact (evV 5 rfl).seq | exact esO 5 rfl | exact EV.seqQ (evV 5 rfl)) evI (by walk_at "Tp.at"))) (by walk_at "Tp.look")) (gt_tup g.calm (gts_cons 6 g.nd (gts_cons 7 g.nd gts_nil))) ?_
        -- if may_carry(way, amount, limits):
        show SV _ _ _ _ [_, _, _, _, _, _, .im (.int (ent w m).1), .im (.tuple (wys (ent w m).2)), _] _
        refine sv_if (etV (EC.ev (ecCall g C_may_carry (by decide) (eaC (evV 5 rfl) (eaC (evV 6 rfl) (eaC (evV 1 rfl) eaN))) ⟨_, _, _, rfl, rfl⟩))) (fun h99 => ?_) (fun h99 => ?_)
        · skip
          -- needed = must_come_in(way[3], amount)
          refine sv_asg 8 g (EC.ev (ecCall g C_must_come_in (by decide) (eaC (evIx (by first | exact (evV 5 rfl).seqT | exact (evV 5 rfl).seq | exact esO 5 rfl | exact EV.seqQ (evV 5 rfl)) evI (by walk_at "Tp.at")) (eaC (evV 6 rfl) eaN)) ⟨_, _, _, _, rfl, by walk_at "Tp.pre", rfl⟩)) ?_
          -- if best is None or needed < best[0]:
          refine sv_if (EW.t (by first | exact ewOrT (etCmp (by first | exact (evV 4 rfl).h | exact (esO 4 rfl).h) (EV.h evN) (by walk_at "Tp.is")) | exact ewOr (etCmp (by first | exact (evV 4 rfl).h | exact (esO 4 rfl).h) (EV.h evN) (by walk_at "Tp.is")) fun hb => (ewOr1 (etCmp (by first | exact (evV 8 rfl).h | exact (esO 8 rfl).h) (EV.h (evIx (by first | exact (evV 4 rfl).seqT | exact (evV 4 rfl).seq | exact esO 4 rfl | exact EV.seqQ (evV 4 rfl)) evI (by walk_at "Tp.at"))) cv_lt)))) (fun h101 => ?_) (fun h101 => ?_)
          · skip
            -- best = (needed, (way,) + rest)
            refine sv_asg 4 g (evTup (eaC (evV 8 rfl) (eaC (evBin (evTup (eaC (evV 5 rfl) eaN)) (evV 7 rfl) (by walk_at "Tp.add")) eaN))) ?_
            refine sv_nil ?_
            show SV _ _ _ _ _ _
            refine sv_nil ?_
            show SV _ _ _ _ _ _
            refine sv_nil ?_
            show SV _ _ _ _ _ _
            refine sv_nil ?_
            first
            | (exfalso; cases h101; done)
            | (walk_at "Tp.nx"; rw [fold_take hw, hb]; first | (rw [bs_no (hit_is h97)]; walk_at "Tp.wk") | (rw [bs_nc hit h99]; walk_at "Tp.wk") | (rw [bs_new0 hit h99]; walk_at "Tp.wk") | (rw [bs_new (x := (x0, x1)) hit h99 h101]; walk_at "Tp.wk") | (rw [bs_old (x := (x0, x1)) hit h99 h101]; walk_at "Tp.wk"))
          · skip
            refine sv_nil ?_
            show SV _ _ _ _ _ _
            refine sv_nil ?_
            show SV _ _ _ _ _ _
            refine sv_nil ?_
            show SV _ _ _ _ _ _
            refine sv_nil ?_
            first
            | (exfalso; cases h101; done)
            | (walk_at "Tp.nx"; rw [fold_take hw, hb]; first | (rw [bs_no (hit_is h97)]; walk_at "Tp.wk") | (rw [bs_nc hit h99]; walk_at "Tp.wk") | (rw [bs_new0 hit h99]; walk_at "Tp.wk") | (rw [bs_new (x := (x0, x1)) hit h99 h101]; walk_at "Tp.wk") | (rw [bs_old (x := (x0, x1)) hit h99 h101]; walk_at "Tp.wk"))
        · skip
          refine sv_nil ?_
          show SV _ _ _ _ _ _
          refine sv_nil ?_
          show SV _ _ _ _ _ _
          refine sv_nil ?_
          first
          | (exfalso; cases h101; done)
          | (walk_at "Tp.nx"; rw [fold_take hw, hb]; first | (rw [bs_no (hit_is h97)]; walk_at "Tp.wk") | (rw [bs_nc hit h99]; walk_at "Tp.wk") | (rw [bs_new0 hit h99]; walk_at "Tp.wk") | (rw [bs_new (x := (x0, x1)) hit h99 h101]; walk_at "Tp.wk") | (rw [bs_old (x := (x0, x1)) hit h99 h101]; walk_at "Tp.wk"))
      · skip
        refine sv_nil ?_
        show SV _ _ _ _ _ _
        refine sv_nil ?_
        first
        | (exfalso; cases h101; done)
        | (walk_at "Tp.nx"; rw [fold_take hw, hb]; first | (rw [bs_no (hit_is h97)]; walk_at "Tp.wk") | (rw [bs_nc hit h99]; walk_at "Tp.wk") | (rw [bs_new0 hit h99]; walk_at "Tp.wk") | (rw [bs_new (x := (x0, x1)) hit h99 h101]; walk_at "Tp.wk") | (rw [bs_old (x := (x0, x1)) hit h99 h101]; walk_at "Tp.wk"))
  · obtain rfl := hI
    -- return best
    rw [wys_len, List.take_length]
    refine sv_ret (evV 4 rfl) ?_
    show Q _
    walk_at "Tp.ret"
end
end Tp
namespace Tp
open PySem L2
section
variable {P : Program} {w : World} {K : PySem.W.Frag} {mg : Str → Option Value} {base : Heap}
/-! next_round -/
theorem sc_next_round : FnScope ["ways", "limits", "source", "known", "result", "looked", "way", "giver", "best"] ["ways", "limits", "source", "known"] (defScope s_next_round) := ⟨rfl, rfl, rfl, by decide +kernel, rfl, by decide +kernel, by decide +kernel⟩
theorem ok_next_round {xs : Xs} {f : Addr} {fd : FuncData} (F : Fun K "next_round" "next_round" s_next_round f fd) (T : Txt K mg xs) (C_best_way : Cal P w [] K mg base "best_way" 3 (c_best_way xs)) : FnOk P w K mg base (L2.CX P w) 4 f fd ["ways", "limits", "source", "known"] (spD [] K (c_next_round xs)) := by
  refine fn_d F sc_next_round (fun ds Q E h => by obtain ⟨_, _, _, _, rfl, _⟩ := h; rfl) fun cdv A outer s H H0 E qs ds Q Ex g hc => ?_
  obtain ⟨ws, L, src, m, rfl, hpre, hQ⟩ := hc
  show SV _ _ _ _ [.im (.list (wys ws)), .im (.list (lms L)), .im (.int src), .im (.dict ((gnv enD m).map kdm)), .no, .no, .no, .no, .no] _
  -- result = dict(known)
  refine sv_new 4 g (enDictD (by first | exact EV.dct (evV 3 rfl) | exact ekO 3 rfl) T.b_dict) fun p4_105 => ?_
  -- looked = set()
  refine sv_new 5 g (enSet0 T.b_set) fun p5_106 => ?_
  -- for way in ways:
  refine sv_forL (fun i r' => r' = [.im (.list (wys ws)), .im (.list (lms L)), .im (.int src), .im (.dict ((gnv enD m).map kdm)), .od p4_105 (gnv enD (nrF ws L src m (ws.take i)).1), .os p5_106 (nrF ws L src m (ws.take i)).2, .no, .no, .no]) ((fun d r' => r'.set 6 (.im d))) g (evV 0 rfl) (fun _ i d r' hi => gt_name 6 g.nd) ?_ (fun B1 i d r' hi hI => ?_) (fun r' hI => ?_)
  · exact rfl
  · obtain rfl := hI
    obtain ⟨w, hw, rfl⟩ := map_at hi
    have hil := (List.getElem?_eq_some_iff.mp hw).1
    have hfl := nrF_len ws L src m (ws.take i) (m, [])
    rcases hst : nrF ws L src m (ws.take i) with ⟨m1, S1⟩
    have hst2 := hst
    unfold nrF at hst2
    rw [hst2, List.length_take] at hfl
    simp only [List.length_nil] at hfl
    have hgl := gnv_len (f := enD) m1
    -- giver = way[1]
    refine sv_asg 7 g (evIx (by first | exact (evV 6 rfl).seqT | exact (evV 6 rfl).seq | exact esO 6 rfl | exact EV.seqQ (evV 6 rfl)) evI (by walk_at "Tp.at")) ?_
    -- if giver != source and giver not in looked:
    refine sv_if (EW.t (ewAnd (etCmp (by first | exact (evV 7 rfl).h | exact (esO 7 rfl).h) (by first | exact (evV 2 rfl).h | exact (esO 2 rfl).h) (by walk_at "Tp.ne")) fun hb => (ewAnd1 (etTSnin 5 rfl (evV 7 rfl))))) (fun h109 => ?_) (fun h109 => ?_)
    · skip
      -- looked.add(giver)
      refine sv_sadd 5 rfl (evV 7 rfl) (by walk_at "Tp.len") ?_
      -- best = best_way(ways, limits, giver, known)
      refine sv_asg 8 g (EC.ev (ecCall g C_best_way (by decide) (eaC (evV 0 rfl) (eaC (evV 1 rfl) (eaC (evV 7 rfl) (eaC (evV 3 rfl) eaN)))) ⟨_, _, _, _, rfl, ⟨hpre.1, hpre.2.1⟩, rfl⟩)) ?_
      -- if best is not None and (giver not in known or best[0] < known[giver][0]):
      rcases hb : bestF ws L w.gv m with _ | x
      · skip
        show SV _ _ _ _ [_, _, _, _, _, _, _, _, .im (.none)] _
        -- if best is not None and (giver not in known or best[0] < known[giver][0]):
        refine sv_ifF (EW.t (by first | exact ewAndF (etCmp (by first | exact (evV 8 rfl).h | exact (esO 8 rfl).h) (EV.h evN) (by walk_at "Tp.isnot")) | exact ewAnd (etCmp (by first | exact (evV 8 rfl).h | exact (esO 8 rfl).h) (EV.h evN) (by walk_at "Tp.isnot")) fun hb => (ewAnd1 (EW.t (ewOr (etTDnin g (EV.key (evV 7 rfl)) (by first | exact EV.dct (evV 3 rfl) | exact ekO 3 rfl)) fun hb => (ewOr1 (etCmp (EV.h (evIx (by first | exact (evV 8 rfl).seqT | exact (evV 8 rfl).seq | exact esO 8 rfl | exact EV.seqQ (evV 8 rfl)) evI (by walk_at "Tp.at"))) (EV.h (evIx (by first | exact EV.seqT (evDix g (by first | exact EV.dct (evV 3 rfl) | exact ekO 3 rfl) (EV.key (evV 7 rfl)) (by walk_at "Tp.look")) | exact EV.seq (evDix g (by first | exact EV.dct (evV 3 rfl) | exact ekO 3 rfl) (EV.key (evV 7 rfl)) (by walk_at "Tp.look"))) evI (by walk_at "Tp.at"))) cv_lt))))))) ?_
        refine sv_nil ?_
        show SV _ _ _ _ _ _
        refine sv_nil ?_
        show SV _ _ _ _ _ _
        refine sv_nil ?_
        walk_at "Tp.nx"
        rw [nrF_snoc hw, hst]
        first | (rw [nr_no h109]; walk_at "Tp.wk") | (rw [nr_yes h109, np_none hb]; walk_at "Tp.wk") | (rw [nr_yes h109, np_put hb (bet_is h112), ← putD_gnv]; walk_at "Tp.wk") | (rw [nr_yes h109, np_keep hb (bet_is h112)]; walk_at "Tp.wk")
      · skip
        rcases x with ⟨x0, x1⟩
        show SV _ _ _ _ [_, _, _, _, _, _, _, _, .im (.tuple [.int x0, .tuple (wys x1)])] _
        -- if best is not None and (giver not in known or best[0] < known[giver][0]):
        refine sv_if (EW.t (by first | exact ewAndF (etCmp (by first | exact (evV 8 rfl).h | exact (esO 8 rfl).h) (EV.h evN) (by walk_at "Tp.isnot")) | exact ewAnd (etCmp (by first | exact (evV 8 rfl).h | exact (esO 8 rfl).h) (EV.h evN) (by walk_at "Tp.isnot")) fun hb => (ewAnd1 (EW.t (ewOr (etTDnin g (EV.key (evV 7 rfl)) (by first | exact EV.dct (evV 3 rfl) | exact ekO 3 rfl)) fun hb => (ewOr1 (etCmp (EV.h (evIx (by first | exact (evV 8 rfl).seqT | exact (evV 8 rfl).seq | exact esO 8 rfl | exact EV.seqQ (evV 8 rfl)) evI (by walk_at "Tp.at"))) (EV.h (evIx (by first | exact EV.seqT (evDix g (by first | exact EV.dct (evV 3 rfl) | exact ekO 3 rfl) (EV.key (evV 7 rfl)) (by walk_at "Tp.look")) | exact EV.seq (evDix g (by first | exact EV.dct (evV 3 rfl) | exact ekO 3 rfl) (EV.key (evV 7 rfl)) (by walk_at "Tp.look"))) evI (by walk_at "Tp.at"))) cv_lt))))))) (fun h112 => ?_) (fun h112 => ?_)
        · skip
          -- result[giver] = best
          refine sv_put 4 g rfl (evV 8 rfl) (EV.key (evV 7 rfl)) (by walk_at "Tp.len") ?_
          refine sv_nil ?_
          show SV _ _ _ _ _ _
          refine sv_nil ?_
          show SV _ _ _ _ _ _
          refine sv_nil ?_
          walk_at "Tp.nx"
          rw [nrF_snoc hw, hst]
          first | (rw [nr_no h109]; walk_at "Tp.wk") | (rw [nr_yes h109, np_none hb]; walk_at "Tp.wk") | (rw [nr_yes h109, np_put hb (bet_is h112), ← putD_gnv]; walk_at "Tp.wk") | (rw [nr_yes h109, np_keep hb (bet_is h112)]; walk_at "Tp.wk")
        · skip
          refine sv_nil ?_
          show SV _ _ _ _ _ _
          refine sv_nil ?_
          show SV _ _ _ _ _ _
          refine sv_nil ?_
          walk_at "Tp.nx"
          rw [nrF_snoc hw, hst]
          first | (rw [nr_no h109]; walk_at "Tp.wk") | (rw [nr_yes h109, np_none hb]; walk_at "Tp.wk") | (rw [nr_yes h109, np_put hb (bet_is h112), ← putD_gnv]; walk_at "Tp.wk") | (rw [nr_yes h109, np_keep hb (bet_is h112)]; walk_at "Tp.wk")
    · skip
      refine sv_nil ?_
      show SV _ _ _ _ _ _
      refine sv_nil ?_
      walk_at "Tp.nx"
      rw [nrF_snoc hw, hst]
      first | (rw [nr_no h109]; walk_at "Tp.wk") | (rw [nr_yes h109, np_none hb]; walk_at "Tp.wk") | (rw [nr_yes h109, np_put hb (bet_is h112), ← putD_gnv]; walk_at "Tp.wk") | (rw [nr_yes h109, np_keep hb (bet_is h112)]; walk_at "Tp.wk")
  · obtain rfl := hI
    -- return result
    rw [wys_len, List.take_length]
    refine sv_retK 4 rfl ?_
    show Q _
    walk_at "Tp.ret"
end
end Tp
namespace Tp
open PySem L2
section
variable {P : Program} {w : World} {K : PySem.W.Frag} {mg : Str → Option Value} {base : Heap}
/-! cheapest -/
theorem sc_cheapest : FnScope ["ways", "limits", "request", "source", "target", "amount", "hops", "known", "_", "route", "least", "way", "arriving", "rest"] ["ways", "limits", "request"] (defScope s_cheapest) := ⟨rfl, rfl, rfl, by decide +kernel, rfl, by decide +kernel, by decide +kernel⟩
theorem ok_cheapest {xs : Xs} {f : Addr} {fd : FuncData} (F : Fun K "cheapest" "cheapest" s_cheapest f fd) (T : Txt K mg xs) (C_next_round : Cal P w [] K mg base "next_round" 4 (c_next_round xs)) (C_may_carry : Cal P w [] K mg base "may_carry" 2 (c_may_carry xs)) : FnOk P w K mg base (L2.CX P w) 5 f fd ["ways", "limits", "request"] (spD [] K (c_cheapest xs)) := by
  refine fn_d F sc_cheapest (fun ds Q E h => by obtain ⟨_, _, _, _, _, _, rfl, _⟩ := h; rfl) fun cdv A outer s H H0 E qs ds Q Ex g hc => ?_
  obtain ⟨ws, L, src, tgt, a, hops, rfl, hpre, hQ⟩ := hc
  show SV _ _ _ _ [.im (.list (wys ws)), .im (.list (lms L)), .im (.tuple [.int src, .int tgt, .int a, .int hops]), .no, .no, .no, .no, .no, .no, .no, .no, .no, .no, .no] _
  -- source, target, amount, hops = request
  refine sv_asgT (evV 2 rfl) (gt_tup g.calm (gts_cons 3 g.nd (gts_cons 4 g.nd (gts_cons 5 g.nd (gts_cons 6 g.nd gts_nil))))) ?_
  -- if source == target:
  refine sv_ifX (etCmp (by first | exact (evV 3 rfl).h | exact (esO 3 rfl).h) (by first | exact (evV 4 rfl).h | exact (esO 4 rfl).h) (by walk_at "Tp.eq")) (fun h117 => ?_) (fun h117 => ?_)
  · skip
    -- return None
    refine sv_ret evN ?_
    show Q _
    refine rt_is hQ (congrArg Rs.da ?_)
    unfold cheap
    rw [if_pos (of_decide_eq_true h117)]
    rfl
  · skip
    -- known = {target: (amount, ())}
    refine sv_asg 7 g (evDisp1 (fun _ _ => (EV.key (evV 4 rfl))) (fun _ _ => (evTup (eaC (evV 5 rfl) (eaC (evTup eaN) eaN))))) ?_
    -- for _ in range(hops - 1):
    refine sv_forR (fun i r' => r' = [.im (.list (wys ws)), .im (.list (lms L)), .im (.tuple [.int src, .int tgt, .int a, .int hops]), .im (.int src), .im (.int tgt), .im (.int a), .im (.int hops), .im (.dict ((gnv enD (knR ws L src tgt a i)).map kdm)), .no, .no, .no, .no, .no, .no]) (fun i r' => r'.set 8 (.im (.int (i : Int)))) g (evBin (evV 6 rfl) evI ov_sub) (by walk_at "Tp.rng") T.b_range (fun _ _ => gt_name 8 g.nd) ?_ (fun i r' hi hI => ?_) (fun r' hI => ?_)
    · exact rfl
    · obtain rfl := hI
      have hkn := knR_len ws L src tgt a i
      have hko := knR_ok (ws := ws) (L := L) (src := src) (tgt := tgt) (a := a) i
      have hmul : i * ws.length ≤ 12 * 60 := Nat.mul_le_mul (by omega) (by omega)
      -- known = next_round(ways, limits, source, known)
      refine sv_asg 7 g (EC.evK (ecCall g C_next_round (by decide) (eaC (evV 0 rfl) (eaC (evV 1 rfl) (eaC (evV 3 rfl) (eaC (evV 7 rfl) eaN)))) ⟨_, _, _, _, rfl, ⟨hpre.1, fun x hx => Nat.le_trans (hko x hx).ln (by omega), by omega, by omega⟩, rfl⟩)) ?_
      refine sv_nil ?_
      walk_at "Tp.step"
    · obtain rfl := hI
      -- route = None
      have hkl := knR_ok (ws := ws) (L := L) (src := src) (tgt := tgt) (a := a) (hops - 1).toNat
      generalize hm : knR ws L src tgt a (hops - 1).toNat = m at hkl ⊢
      refine sv_asg 9 g evN ?_
      -- least = 0
      refine sv_asg 10 g evI ?_
      -- for way in ways:
      refine sv_forL (fun i r' => r' = [.im (.list (wys ws)), .im (.list (lms L)), .im (.tuple [.int src, .int tgt, .int a, .int hops]), .im (.int src), .im (.int tgt), .im (.int a), .im (.int hops), .im (.dict ((gnv enD m).map kdm)), .no, .im (orD (lastF (ws.take i) L src m).1), .im (.int (lastF (ws.take i) L src m).2), .no, .no, .no]) ((fun d r' => r'.set 11 (.im d))) g (evV 0 rfl) (fun _ i d r' hi => gt_name 11 g.nd) ?_ (fun B1 i d r' hi hI => ?_) (fun r' hI => ?_)
      · exact rfl
      · obtain rfl := hI
        obtain ⟨w, hw, rfl⟩ := map_at hi
        -- if way[1] == source and way[2] in known:
        rcases hb : lastF (ws.take i) L src m with ⟨o, z⟩
        rcases o with _ | l0
        · skip
          show SV _ _ _ _ [_, _, _, _, _, _, _, _, _, .im (.none), .im (.int z), _, _, _] _
          -- if way[1] == source and way[2] in known:
          refine sv_if (EW.t (ewAnd (etCmp (EV.h (evIx (by first | exact (evV 11 rfl).seqT | exact (evV 11 rfl).seq | exact esO 11 rfl | exact EV.seqQ (evV 11 rfl)) evI (by walk_at "Tp.at"))) (by first | exact (evV 3 rfl).h | exact (esO 3 rfl).h) (by walk_at "Tp.eq")) fun hb => (ewAnd1 (etTDin g (EV.key (evIx (by first | exact (evV 11 rfl).seqT | exact (evV 11 rfl).seq | exact esO 11 rfl | exact EV.seqQ (evV 11 rfl)) evI (by walk_at "Tp.at"))) (by first | exact EV.dct (evV 7 rfl) | exact ekO 7 rfl))))) (fun h125 => ?_) (fun h125 => ?_)
          · skip
            -- arriving, rest = known[way[2]]
            have hit := hit_is h125
            have hlk := lk_get (f := enD) dEn (show (lkK (gnv enD m) (Sum.inl w.tk)).isSome = true from (Bool.and_eq_true_iff.mp h125).2)
            have hrl : (ent w m).2.length ≤ (hops - 1).toNat := (hkl _ (ent_mem hit).1).ln
            have hws := wys_len (ent w m).2
            refine sv_asgT (evDix g (by first | exact EV.dct (evV 7 rfl) | exact ekO 7 rfl) (EV.key (evIx (by first | exact (evV 11 rfl).seqT | exact (evV 11 rfl).seq | exact esO 11 rfl | exact EV.seqQ (evV 11 rfl)) evI (by walk_at "Tp.at"))) (by walk_at "Tp.look")) (gt_tup g.calm (gts_cons 12 g.nd (gts_cons 13 g.nd gts_nil))) ?_
            -- if may_carry(way, arriving, limits) and (route is None or arriving < least):
            show SV _ _ _ _ [_, _, _, _, _, _, _, _, _, _, _, _, .im (.int (ent w m).1), .im (.tuple (wys (ent w m).2))] _
            refine sv_if (EW.t (ewAnd (etV (EC.ev (ecCall g C_may_carry (by decide) (eaC (evV 11 rfl) (eaC (evV 12 rfl) (eaC (evV 1 rfl) eaN))) ⟨_, _, _, rfl, rfl⟩))) fun hb => (ewAnd1 (EW.t (by first | exact ewOrT (etCmp (by first | exact (evV 9 rfl).h | exact (esO 9 rfl).h) (EV.h evN) (by walk_at "Tp.is")) | exact ewOr (etCmp (by first | exact (evV 9 rfl).h | exact (esO 9 rfl).h) (EV.h evN) (by walk_at "Tp.is")) fun hb => (ewOr1 (etCmp (by first | exact (evV 12 rfl).h | exact (esO 12 rfl).h) (by first | exact (evV 10 rfl).h | exact (esO 10 rfl).h) cv_lt))))))) (fun h127 => ?_) (fun h127 => ?_)
            · skip
              -- route = (way,) + rest
              refine sv_asg 9 g (evBin (evTup (eaC (evV 11 rfl) eaN)) (evV 13 rfl) (by walk_at "Tp.add")) ?_
              -- least = arriving
              refine sv_asg 10 g (evV 12 rfl) ?_
              refine sv_nil ?_
              show SV _ _ _ _ _ _
              refine sv_nil ?_
              show SV _ _ _ _ _ _
              refine sv_nil ?_
              walk_at "Tp.nx"
              rw [show lastF (ws.take (i + 1)) L src m = lastS L src m (lastF (ws.take i) L src m) w from fold_take hw, hb]
              first | (rw [ls_no (hit_is h125)]; walk_at "Tp.wk") | (rw [ls_all (o := none) hit h127]; walk_at "Tp.wk") | (rw [ls_all (o := some l0) hit h127]; walk_at "Tp.wk") | (rw [ls_keep (o := none) hit h127]; walk_at "Tp.wk") | (rw [ls_keep (o := some l0) hit h127]; walk_at "Tp.wk")
            · skip
              refine sv_nil ?_
              show SV _ _ _ _ _ _
              refine sv_nil ?_
              show SV _ _ _ _ _ _
              refine sv_nil ?_
              walk_at "Tp.nx"
              rw [show lastF (ws.take (i + 1)) L src m = lastS L src m (lastF (ws.take i) L src m) w from fold_take hw, hb]
              first | (rw [ls_no (hit_is h125)]; walk_at "Tp.wk") | (rw [ls_all (o := none) hit h127]; walk_at "Tp.wk") | (rw [ls_all (o := some l0) hit h127]; walk_at "Tp.wk") | (rw [ls_keep (o := none) hit h127]; walk_at "Tp.wk") | (rw [ls_keep (o := some l0) hit h127]; walk_at "Tp.wk")
          · skip
            refine sv_nil ?_
            show SV _ _ _ _ _ _
            refine sv_nil ?_
            walk_at "Tp.nx"
            rw [show lastF (ws.take (i + 1)) L src m = lastS L src m (lastF (ws.take i) L src m) w from fold_take hw, hb]
            first | (rw [ls_no (hit_is h125)]; walk_at "Tp.wk") | (rw [ls_all (o := none) hit h127]; walk_at "Tp.wk") | (rw [ls_all (o := some l0) hit h127]; walk_at "Tp.wk") | (rw [ls_keep (o := none) hit h127]; walk_at "Tp.wk") | (rw [ls_keep (o := some l0) hit h127]; walk_at "Tp.wk")
        · skip
          show SV _ _ _ _ [_, _, _, _, _, _, _, _, _, .im (.tuple (wys l0)), .im (.int z), _, _, _] _
          -- if way[1] == source and way[2] in known:
          refine sv_if (EW.t (ewAnd (etCmp (EV.h (evIx (by first | exact (evV 11 rfl).seqT | exact (evV 11 rfl).seq | exact esO 11 rfl | exact EV.seqQ (evV 11 rfl)) evI (by walk_at "Tp.at"))) (by first | exact (evV 3 rfl).h | exact (esO 3 rfl).h) (by walk_at "Tp.eq")) fun hb => (ewAnd1 (etTDin g (EV.key (evIx (by first | exact (evV 11 rfl).seqT | exact (evV 11 rfl).seq | exact esO 11 rfl | exact EV.seqQ (evV 11 rfl)) evI (by walk_at "Tp.at"))) (by first | exact EV.dct (evV 7 rfl) | exact ekO 7 rfl))))) (fun h125 => ?_) (fun h125 => ?_)
          · skip
            -- arriving, rest = known[way[2]]
            have hit := hit_is h125
            have hlk := lk_get (f := enD) dEn (show (lkK (gnv enD m) (Sum.inl w.tk)).isSome = true from (Bool.and_eq_true_iff.mp h125).2)
            have hrl : (ent w m).2.length ≤ (hops - 1).toNat := (hkl _ (ent_mem hit).1).ln
            have hws := wys_len (ent w m).2
            refine sv_asgT (evDix g (by first | exact EV.dct (evV 7 rfl) | exact ekO 7 rfl) (EV.key (evIx (by first | exact (evV 11 rfl).seqT | exact (evV 11 rfl).seq | exact esO 11 rfl | exact EV.seqQ (evV 11 rfl)) evI (by walk_at "Tp.at"))) (by walk_at "Tp.look")) (gt_tup g.calm (gts_cons 12 g.nd (gts_cons 13 g.nd gts_nil))) ?_
            -- if may_carry(way, arriving, limits) and (route is None or arriving < least):
            show SV _ _ _ _ [_, _, _, _, _, _, _, _, _, _, _, _, .im (.int (ent w m).1), .im (.tuple (wys (ent w m).2))] _
            refine sv_if (EW.t (ewAnd (etV (EC.ev (ecCall g C_may_carry (by decide) (eaC (evV 11 rfl) (eaC (evV 12 rfl) (eaC (evV 1 rfl) eaN))) ⟨_, _, _, rfl, rfl⟩))) fun hb => (ewAnd1 (EW.t (by first | exact ewOrT (etCmp (by first | exact (evV 9 rfl).h | exact (esO 9 rfl).h) (EV.h evN) (by walk_at "Tp.is")) | exact ewOr (etCmp (by first | exact (evV 9 rfl).h | exact (esO 9 rfl).h) (EV.h evN) (by walk_at "Tp.is")) fun hb => (ewOr1 (etCmp (by first | exact (evV 12 rfl).h | exact (esO 12 rfl).h) (by first | exact (evV 10 rfl).h | exact (esO 10 rfl).h) cv_lt))))))) (fun h127 => ?_) (fun h127 => ?_)
            · skip
              -- route = (way,) + rest
              refine sv_asg 9 g (evBin (evTup (eaC (evV 11 rfl) eaN)) (evV 13 rfl) (by walk_at "Tp.add")) ?_
              -- least = arriving
              refine sv_asg 10 g (evV 12 rfl) ?_
              refine sv_nil ?_
              show SV _ _ _ _ _ _
              refine sv_nil ?_
              show SV _ _ _ _ _ _
              refine sv_nil ?_
              walk_at "Tp.nx"
              rw [show lastF (ws.take (i + 1)) L src m = lastS L src m (lastF (ws.take i) L src m) w from fold_take hw, hb]
              first | (rw [ls_no (hit_is h125)]; walk_at "Tp.wk") | (rw [ls_all (o := none) hit h127]; walk_at "Tp.wk") | (rw [ls_all (o := some l0) hit h127]; walk_at "Tp.wk") | (rw [ls_keep (o := none) hit h127]; walk_at "Tp.wk") | (rw [ls_keep (o := some l0) hit h127]; walk_at "Tp.wk")
            · skip
              refine sv_nil ?_
              show SV _ _ _ _ _ _
              refine sv_nil ?_
              show SV _ _ _ _ _ _
              refine sv_nil ?_
              walk_at "Tp.nx"
              rw [show lastF (ws.take (i + 1)) L src m = lastS L src m (lastF (ws.take i) L src m) w from fold_take hw, hb]
              first | (rw [ls_no (hit_is h125)]; walk_at "Tp.wk") | (rw [ls_all (o := none) hit h127]; walk_at "Tp.wk") | (rw [ls_all (o := some l0) hit h127]; walk_at "Tp.wk") | (rw [ls_keep (o := none) hit h127]; walk_at "Tp.wk") | (rw [ls_keep (o := some l0) hit h127]; walk_at "Tp.wk")
          · skip
            refine sv_nil ?_
            show SV _ _ _ _ _ _
            refine sv_nil ?_
            walk_at "Tp.nx"
            rw [show lastF (ws.take (i + 1)) L src m = lastS L src m (lastF (ws.take i) L src m) w from fold_take hw, hb]
            first | (rw [ls_no (hit_is h125)]; walk_at "Tp.wk") | (rw [ls_all (o := none) hit h127]; walk_at "Tp.wk") | (rw [ls_all (o := some l0) hit h127]; walk_at "Tp.wk") | (rw [ls_keep (o := none) hit h127]; walk_at "Tp.wk") | (rw [ls_keep (o := some l0) hit h127]; walk_at "Tp.wk")
      · obtain rfl := hI
        -- return route
        refine sv_ret (evV 9 rfl) ?_
        show Q _
        refine rt_is hQ (congrArg Rs.da ?_)
        unfold cheap
        rw [if_neg (of_decide_eq_false h117), wys_len, List.take_length, hm]
end
end Tp
namespace Tp
open PySem L2
section
variable {P : Program} {w : World} {K : PySem.W.Frag} {mg : Str → Option Value} {base : Heap}
/-! find_route -/
theorem sc_find_route : FnScope ["ways", "limits", "request", "deadline", "route", "way"] ["ways", "limits", "request", "deadline"] (defScope s_find_route) := ⟨rfl, rfl, rfl, by decide +kernel, rfl, by decide +kernel, by decide +kernel⟩
theorem ok_find_route {xs : Xs} {f : Addr} {fd : FuncData} (F : Fun K "find_route" "find_route" s_find_route f fd) (T : Txt K mg xs) (C_check_request : Cal P w [] K mg base "check_request" 2 (c_check_request xs)) (C_cheapest : Cal P w [] K mg base "cheapest" 5 (c_cheapest xs)) (C_legs : Cal P w [] K mg base "legs" 2 (c_legs xs)) (C_loads : Cal P w [] K mg base "loads" 2 (c_loads xs)) : FnOk P w K mg base (L2.CX P w) 6 f fd ["ways", "limits", "request", "deadline"] (spD [] K (c_find_route xs)) := by
  refine fn_d F sc_find_route (fun ds Q E h => by obtain ⟨_, _, _, _, _, _, _, rfl, _⟩ := h; rfl) fun cdv A outer s H H0 E qs ds Q Ex g hc => ?_
  obtain ⟨ws, L, src, tgt, a, hops, dl, rfl, ⟨hw, hm⟩, hQ, hE⟩ := hc
  show SV _ _ _ _ [.im (.list (wys ws)), .im (.list (lms L)), .im (.tuple [.int src, .int tgt, .int a, .int hops]), .im (.int dl), .no, .no] _
  -- check_request(ways, limits, request)
  by_cases hr : reqOk (wys ws).length L a hops
  · skip
    skip
    -- check_request(ways, limits, request)
    refine sv_dropC (Po := fun _ => True) (Ex := fun _ => False) (ecCall g C_check_request (by decide) (eaC (evV 0 rfl) (eaC (evV 1 rfl) (eaC (evV 2 rfl) eaN))) ⟨false, wys ws, L, .int src, .int tgt, a, hops, rfl, fun _ => trivial, fun z => absurd hr z⟩) ?_ (fun _ z => z.elim)
    -- route = cheapest(ways, limits, request)
    rw [wys_len] at hr
    refine sv_asg 4 g (EC.ev (ecCall g C_cheapest (by decide) (eaC (evV 0 rfl) (eaC (evV 1 rfl) (eaC (evV 2 rfl) eaN))) ⟨_, _, _, _, _, _, rfl, ⟨hw, hr.1.1, hr.2.1, hr.2.2⟩, rfl⟩)) ?_
    -- if route is None:
    rcases hch : cheap ws L src tgt a hops with _ | rt
    · skip
      show SV _ _ _ _ [_, _, _, _, .im .none, _] _
      -- if route is None:
      refine sv_ifT (etCmp (by first | exact (evV 4 rfl).h | exact (esO 4 rfl).h) (EV.h evN) (by walk_at "Tp.is")) ?_
      -- return None
      refine sv_ret evN ?_
      show Q _
      refine rt_is (hQ hr) ?_
      rw [hch]
      rfl
    · skip
      show SV _ _ _ _ [_, _, _, _, .im (.tuple (wys rt)), _] _
      -- if route is None:
      refine sv_ifF (etCmp (by first | exact (evV 4 rfl).h | exact (esO 4 rfl).h) (EV.h evN) (by walk_at "Tp.is")) ?_
      refine sv_nil ?_
      show SV _ _ _ _ _ _
      -- return (route, loads(route, request[2])[0], legs(request[2], deadline, [way[3] for way in route[1:]]
      obtain ⟨ne, w, hww, e, hlk, hko, hgv, hmc, rfl⟩ := cheap_is hch
      have hsub : ∀ v ∈ w :: e.2, v ∈ ws ∧ WyOk v := fun v hv => by
        have h : v ∈ ws := (List.mem_cons.mp hv).elim (fun z => z ▸ hww) (hko.sub v)
        exact ⟨h, (hw v h).b, (hw v h).s⟩
      have hel := hko.ln
      have hh := hr.2
      have hto : ∀ t ∈ tlw (w :: e.2), TlOk t := fun t ht => by
        obtain ⟨v, hv, rfl⟩ := List.mem_map.mp ht
        exact hw v (hko.sub v hv)
      have htl : (tlw (w :: e.2)).length = e.2.length := List.length_map _
      have hsl := sent_le (dl := dl) hko hmc
      have hmo := hm w hww
      have hdl : ((w :: e.2).drop 1).length ≤ 100 := by simp only [List.drop_succ_cons, List.drop_zero]; omega
      have hll : (ldR a (w :: e.2).reverse).reverse.length = e.2.length + 1 := by rw [List.length_reverse, ldR_len, List.length_reverse]; rfl
      refine sv_ret (evTup (eaC (evV 4 rfl) (eaC (evIx (by first | exact EV.seqT (EC.ev (ecCall g C_loads (by decide) (eaC (evV 4 rfl) (eaC (evIx (by first | exact (evV 2 rfl).seqT | exact (evV 2 rfl).seq | exact esO 2 rfl | exact EV.seqQ (evV 2 rfl)) evI (by walk_at "Tp.at")) eaN)) ⟨w :: e.2, a, rfl, ⟨fun v hv => (hsub v hv).2, by rw [List.length_cons]; omega⟩, rfl⟩)) | exact EV.seq (EC.ev (ecCall g C_loads (by decide) (eaC (evV 4 rfl) (eaC (evIx (by first | exact (evV 2 rfl).seqT | exact (evV 2 rfl).seq | exact esO 2 rfl | exact EV.seqQ (evV 2 rfl)) evI (by walk_at "Tp.at")) eaN)) ⟨w :: e.2, a, rfl, ⟨fun v hv => (hsub v hv).2, by rw [List.length_cons]; omega⟩, rfl⟩))) evI (by walk_at "Tp.at")) (eaC (EC.ev (ecCall g C_legs (by decide) (eaC (evIx (by first | exact (evV 2 rfl).seqT | exact (evV 2 rfl).seq | exact esO 2 rfl | exact EV.seqQ (evV 2 rfl)) evI (by walk_at "Tp.at")) (eaC (evV 3 rfl) (eaC (LcD.ev (evLcQ 5 g (by first | exact EV.seqT (EV.to (evSlTA (evV 4 rfl) (eoS evI) eoN) (cut_wys1 _)) | exact EV.seq (EV.to (evSlTA (evV 4 rfl) (eoS evI) eoN) (cut_wys1 _))) (by walk_at "Tp.len") ltq_nil (fun s5 H5 C5 cl5 fp5 B5 q5 d5 hd5 hb5 => (evIx (by first | exact (evV 5 rfl).seqT | exact (evV 5 rfl).seq | exact esO 5 rfl | exact EV.seqQ (evV 5 rfl)) evI (by walk_at "Tp.at"))))) eaN))) ⟨a, dl, tlw (w :: e.2), congrArg (fun z => [PyData.int a, .int dl, z]) (legs_in _), ⟨hto, by have := hr.1.2.2.1; omega, by omega⟩, fun _ => rfl, fun z => absurd z (by omega), fun _ z => absurd z (by omega)⟩)) eaN)))) ?_
      show Q _
      refine rt_is (hQ hr) ?_
      rw [hch]
      rfl
  · skip
    skip
    -- check_request(ways, limits, request)
    refine sv_dropX (Ex := fun C => C = xs.OutOfBounds) (EC.exc (ecCall g C_check_request (by decide) (eaC (evV 0 rfl) (eaC (evV 1 rfl) (eaC (evV 2 rfl) eaN))) ⟨false, wys ws, L, .int src, .int tgt, a, hops, rfl, fun z => absurd z hr, fun _ => rfl⟩)) (fun C hC => ?_)
    subst hC
    rw [wys_len] at hr
    exact hE hr
end
end Tp
namespace Tp
open PySem L2
section
variable {P : Program} {w : World} {K : PySem.W.Frag} {mg : Str → Option Value} {base : Heap}
/-! balance_table -/
theorem sc_balance_table : FnScope ["ways", "balances", "table", "way", "balance"] ["ways", "balances"] (defScope s_balance_table) := ⟨rfl, rfl, rfl, by decide +kernel, rfl, by decide +kernel, by decide +kernel⟩
theorem ok_balance_table {xs : Xs} {f : Addr} {fd : FuncData} (F : Fun K "balance_table" "balance_table" s_balance_table f fd) (T : Txt K mg xs) : FnOk P w K mg base (L2.CX P w) 1 f fd ["ways", "balances"] (spD [] K (c_balance_table xs)) := by
  refine fn_d F sc_balance_table (fun ds Q E h => by obtain ⟨_, _, rfl, _⟩ := h; rfl) fun cdv A outer s H H0 E qs ds Q Ex g hc => ?_
  obtain ⟨ws, bs, rfl, hpre, hQ⟩ := hc
  show SV _ _ _ _ [.im (.list (wys ws)), .im (.list (itD bs)), .no, .no, .no] _
  -- table = {}
  refine sv_new 2 g enTab fun p2_140 => ?_
  -- for way, balance in zip(ways, balances):
  refine sv_forZ (fun i r' => r' = [.im (.list (wys ws)), .im (.list (itD bs)), .ot p2_140 (tabB ((ws.zip bs).take i)), .no, .no]) (tq2 3 4) g (eaC (evV 0 rfl) (eaC (evV 1 rfl) eaN)) (by rw [wys_len, itD_len]; exact hpre.1.symm) T.b_zip (fun _ i d d2 r' hi hi2 => gt_pair 3 4 g ⟨_, _, rfl⟩) ?_ (fun B1 i d d2 r' hi hi2 hI => ?_) (fun r' hI => ?_)
  · exact rfl
  · obtain rfl := hI
    obtain ⟨w, hw, rfl⟩ := map_at hi
    obtain ⟨b, hb, rfl⟩ := map_at hi2
    have hz : (ws.zip bs)[i]? = some (w, b) := by rw [List.getElem?_zip_eq_some]; exact ⟨hw, hb⟩
    have htl : (tabB ((ws.zip bs).take i)).length ≤ 0 + ((ws.zip bs).take i).length := tabF_len _ []
    rw [List.length_take, List.length_zip] at htl
    -- table.setdefault((way[0], way[1]), balance)
    refine sv_setd 2 g rfl (ektTup (ks := [_, _]) (eaC (evIx (by first | exact (evV 3 rfl).seqT | exact (evV 3 rfl).seq | exact esO 3 rfl | exact EV.seqQ (evV 3 rfl)) evI (by walk_at "Tp.at")) (eaC (evIx (by first | exact (evV 3 rfl).seqT | exact (evV 3 rfl).seq | exact esO 3 rfl | exact EV.seqQ (evV 3 rfl)) evI (by walk_at "Tp.at")) eaN))) (evV 4 rfl) (by walk_at "Tp.len") ?_
    refine sv_nil ?_
    walk_at "Tp.nx"
    rw [show tabB ((ws.zip bs).take (i + 1)) = sdT (tabB ((ws.zip bs).take i)) (kyW w) b from fold_take hz]
    walk_at "Tp.wk"
  · obtain rfl := hI
    -- return table
    rw [wys_len, List.take_of_length_le (by rw [List.length_zip]; omega)]
    refine SV.weak (q := [_, _, .im _, _, _]) (by walk_at "Tp.wk") ?_
    refine sv_ret (evV 2 rfl) ?_
    show Q _
    walk_at "Tp.ret"
end
end Tp
namespace Tp
open PySem L2
section
variable {P : Program} {w : World} {K : PySem.W.Frag} {mg : Str → Option Value} {base : Heap}
/-! outcome_of -/
theorem sc_outcome_of : FnScope ["route", "rows", "table", "k", "way"] ["route", "rows", "table"] (defScope s_outcome_of) := ⟨rfl, rfl, rfl, by decide +kernel, rfl, by decide +kernel, by decide +kernel⟩
theorem ok_outcome_of {xs : Xs} {f : Addr} {fd : FuncData} (F : Fun K "outcome_of" "outcome_of" s_outcome_of f fd) (T : Txt K mg xs) : FnOk P w K mg base (L2.CX P w) 1 f fd ["route", "rows", "table"] (spD [] K (c_outcome_of xs)) := by
  refine fn_d F sc_outcome_of (fun ds Q E h => by obtain ⟨_, _, _, rfl, _⟩ := h; rfl) fun cdv A outer s H H0 E qs ds Q Ex g hc => ?_
  obtain ⟨l, xs, t, rfl, hpre, hQ⟩ := hc
  show SV _ _ _ _ [.im (.tuple (wys l)), .im (.list (itD xs)), .im (tabD t), .no, .no] _
  -- for k, way in enumerate(route):
  refine sv_forE (fun i r' => (List.range i).find? (lackB t l xs) = none ∧ r' = [.im (.tuple (wys l)), .im (.list (itD xs)), .im (tabD t), .no, .no]) (tq2 3 4) g (evV 0 rfl) T.b_enumerate (fun _ i d r' hi => gt_pair 3 4 g ⟨_, _, rfl⟩) ?_ (fun B1 i d r' hi hI => ?_) (fun r' hI => ?_)
  · exact ⟨rfl, rfl⟩
  · obtain ⟨h0, rfl⟩ := hI
    obtain ⟨w, hw, rfl⟩ := map_at hi
    have hlt := (List.getElem?_eq_some_iff.mp hw).1
    obtain ⟨b, hb⟩ := hpre.1 w (List.mem_of_getElem? hw)
    have hb2 : lkT t [w.ch, w.gv] = some b := hb
    have hxl := hpre.2
    -- if table[way[0], way[1]] < rows[k]:
    refine sv_ifX (etCmp (EV.h (evTix g (evV 2 rfl) (ektTup (ks := [_, _]) (eaC (evIx (by first | exact (evV 4 rfl).seqT | exact (evV 4 rfl).seq | exact esO 4 rfl | exact EV.seqQ (evV 4 rfl)) evI (by walk_at "Tp.at")) (eaC (evIx (by first | exact (evV 4 rfl).seqT | exact (evV 4 rfl).seq | exact esO 4 rfl | exact EV.seqQ (evV 4 rfl)) evI (by walk_at "Tp.at")) eaN))) (by walk_at "Tp.look"))) (EV.h (evIx (by first | exact (evV 1 rfl).seqT | exact (evV 1 rfl).seq | exact esO 1 rfl | exact EV.seqQ (evV 1 rfl)) (evV 3 rfl) (by walk_at "Tp.at"))) cv_lt) (fun h146 => ?_) (fun h146 => ?_)
    · skip
      -- return ('lacks', k)
      refine sv_ret (evTup (eaC evStr (eaC (evV 3 rfl) eaN))) ?_
      show Q _
      refine rt_is hQ (congrArg Rs.da ?_)
      rw [outF_yes hlt h0 (show lackB t l xs i = true from lack_is hw hb h146)]
      rfl
    · skip
      refine sv_nil ?_
      walk_at "Tp.nx2"
      · walk_at "Tp.wk"
      · exact range_more h0 (lack_is hw hb h146)
  · obtain ⟨h0, rfl⟩ := hI
    -- return ('passed',)
    refine sv_ret (evTup (eaC evStr eaN)) ?_
    show Q _
    refine rt_is hQ (congrArg Rs.da ?_)
    rw [wys_len] at h0
    unfold outF
    rw [h0]
    rfl
end
end Tp
namespace Tp
open PySem L2
section
variable {P : Program} {w : World} {K : PySem.W.Frag} {mg : Str → Option Value} {base : Heap}
/-! try_routes -/
theorem sc_try_routes : FnScope ["ways", "balances", "limits", "request", "attempts", "table", "made", "_", "route", "rows", "outcome"] ["ways", "balances", "limits", "request", "attempts"] (defScope s_try_routes) := ⟨rfl, rfl, rfl, by decide +kernel, rfl, by decide +kernel, by decide +kernel⟩
theorem ok_try_routes {xs : Xs} {f : Addr} {fd : FuncData} (F : Fun K "try_routes" "try_routes" s_try_routes f fd) (T : Txt K mg xs) (C_check_request : Cal P w [] K mg base "check_request" 2 (c_check_request xs)) (C_balance_table : Cal P w [] K mg base "balance_table" 1 (c_balance_table xs)) (C_cheapest : Cal P w [] K mg base "cheapest" 5 (c_cheapest xs)) (C_loads : Cal P w [] K mg base "loads" 2 (c_loads xs)) (C_outcome_of : Cal P w [] K mg base "outcome_of" 1 (c_outcome_of xs)) (C_taught : Cal P w [] K mg base "taught" 3 (c_taught xs)) : FnOk P w K mg base (L2.CX P w) 6 f fd ["ways", "balances", "limits", "request", "attempts"] (spD [] K (c_try_routes xs)) := by
  refine fn_d F sc_try_routes (fun ds Q E h => by obtain ⟨_, _, _, _, _, _, _, _, rfl, _⟩ := h; rfl) fun cdv A outer s H H0 E qs ds Q Ex g hc => ?_
  obtain ⟨ws, bs, L, src, tgt, a, hops, n, rfl, hT, hQ, hE⟩ := hc
  show SV _ _ _ _ [.im (.list (wys ws)), .im (.list (itD bs)), .im (.list (lms L)), .im (.tuple [.int src, .int tgt, .int a, .int hops]), .im (.int n), .no, .no, .no, .no, .no, .no] _
  -- check_request(ways, limits, request)
  by_cases hr : reqOk (wys ws).length L a hops
  · skip
    skip
    -- check_request(ways, limits, request)
    refine sv_dropC (Po := fun _ => True) (Ex := fun _ => False) (ecCall g C_check_request (by decide) (eaC (evV 0 rfl) (eaC (evV 2 rfl) (eaC (evV 3 rfl) eaN))) ⟨false, wys ws, L, .int src, .int tgt, a, hops, rfl, fun _ => trivial, fun z => absurd hr z⟩) ?_ (fun _ z => z.elim)
    -- if len(balances) != len(ways) or not 1 <= attempts <= MOST_ATTEMPTS:
    refine sv_ifX (EW.t (ewOr (etCmp (EV.h (evLen (by first | exact (evV 1 rfl).seqT | exact (evV 1 rfl).seq | exact esO 1 rfl | exact EV.seqQ (evV 1 rfl)) T.b_len)) (EV.h (evLen (by first | exact (evV 0 rfl).seqT | exact (evV 0 rfl).seq | exact esO 0 rfl | exact EV.seqQ (evV 0 rfl)) T.b_len)) (by walk_at "Tp.ne")) fun hb => (ewOr1 (etNot (etChain (EV.h evI) (by first | exact (evV 4 rfl).h | exact (esO 4 rfl).h) (EV.h T.k_MOST_ATTEMPTS) cv_le cv_le))))) (fun h151 => ?_) (fun h151 => ?_)
    · skip
      -- raise OutOfBounds()
      refine sv_raise g T.x_OutOfBounds ?_
      refine hE fun z => ?_
      obtain ⟨_, z2, z3, z4⟩ := z
      rw [wys_len, itD_len] at h151
      walk_at "Tp.bool"
      omega
    · skip
      -- table = balance_table(ways, balances)
      rw [wys_len] at hr
      have hok : tryOk ws bs L a hops n := by
        rw [wys_len, itD_len] at h151
        refine ⟨hr, ?_⟩
        walk_at "Tp.bool"
        omega
      have hQ := hQ hok
      obtain ⟨⟨⟨hr1, hr2, hr3, hr4⟩, hr5, hr6⟩, hk2, hk3, hk4⟩ := id hok
      have hwk : ∀ w ∈ ws, WyOk w := fun w hw => ⟨(hT w hw).b, (hT w hw).s⟩
      refine sv_asg 5 g (EC.ev (ecCall g C_balance_table (by decide) (eaC (evV 0 rfl) (eaC (evV 1 rfl) eaN)) ⟨_, _, rfl, ⟨hok.2.1, by omega⟩, rfl⟩)) ?_
      -- made = []
      refine sv_new 6 g (enLst eaN) fun p6_154 => ?_
      -- for _ in range(attempts):
      refine sv_forR (fun i r' => ∃ L1 M, M ++ attF ws (tabB (ws.zip bs)) src tgt a hops (n.toNat - i) L1 = attF ws (tabB (ws.zip bs)) src tgt a hops n.toNat L ∧ L1.length ≤ 60 + 14 * i ∧ M.length ≤ i ∧ r' = [.im (.list (wys ws)), .im (.list (itD bs)), .im (.list (lms L1)), .im (.tuple [.int src, .int tgt, .int a, .int hops]), .im (.int n), .im (tabD (tabB (ws.zip bs))), .ol p6_154 (M.map (attD a)), .no, .no, .no, .no]) (fun i r' => r'.set 7 (.im (.int (i : Int)))) g (evV 4 rfl) (by walk_at "Tp.rng") T.b_range (fun _ _ => gt_name 7 g.nd) ?_ (fun i r' hi hI => ?_) (fun r' hI => ?_)
      · exact ⟨L, [], rfl, by omega, Nat.le_refl _, rfl⟩
      · obtain ⟨L1, M, hM, hL1, hMl, rfl⟩ := hI
        obtain ⟨ni, hni⟩ : ∃ ni, n.toNat - i = ni + 1 := ⟨n.toNat - i - 1, by omega⟩
        have hml : (M.map (attD a)).length ≤ 40 := by rw [List.length_map]; omega
        -- route = cheapest(ways, limits, request)
        refine sv_asg 8 g (EC.ev (ecCall g C_cheapest (by decide) (eaC (evV 0 rfl) (eaC (evV 2 rfl) (eaC (evV 3 rfl) eaN))) ⟨_, _, _, _, _, _, rfl, ⟨hT, by omega, by omega, by omega⟩, rfl⟩)) ?_
        -- if route is None:
        rcases hch : cheap ws L1 src tgt a hops with _ | rt
        · skip
          show SV _ _ _ _ [_, _, _, _, _, _, _, _, .im .none, _, _] _
          -- if route is None:
          refine sv_ifT (etCmp (by first | exact (evV 8 rfl).h | exact (esO 8 rfl).h) (EV.h evN) (by walk_at "Tp.is")) ?_
          -- return made
          refine sv_retO 6 rfl ?_
          show Q _
          refine rt_is hQ (congrArg Rs.nl ?_)
          rw [← hM, att_none hch, List.append_nil]
        · skip
          show SV _ _ _ _ [_, _, _, _, _, _, _, _, .im (.tuple (wys rt)), _, _] _
          have hR := cheap_ok hwk (by omega) hr5 hch
          have hrl := hR.len
          have hxl : (rowsW a rt).length = rt.length := by unfold rowsW; rw [List.length_reverse, ldR_len, List.length_reverse]
          -- if route is None:
          refine sv_ifF (etCmp (by first | exact (evV 8 rfl).h | exact (esO 8 rfl).h) (EV.h evN) (by walk_at "Tp.is")) ?_
          refine sv_nil ?_
          show SV _ _ _ _ _ _
          -- rows = loads(route, request[2])
          refine sv_asg 9 g (EC.ev (ecCall g C_loads (by decide) (eaC (evV 8 rfl) (eaC (evIx (by first | exact (evV 3 rfl).seqT | exact (evV 3 rfl).seq | exact esO 3 rfl | exact EV.seqQ (evV 3 rfl)) evI (by walk_at "Tp.at")) eaN)) ⟨rt, a, rfl, ⟨fun w hv => hwk w (hR.sub w hv), by omega⟩, rfl⟩)) ?_
          -- outcome = outcome_of(route, rows, table)
          show SV _ _ _ _ [_, _, _, _, _, _, _, _, _, .im (.list (itD (rowsW a rt))), _] _
          refine sv_asg 10 g (EC.ev (ecCall g C_outcome_of (by decide) (eaC (evV 8 rfl) (eaC (evV 9 rfl) (eaC (evV 5 rfl) eaN))) ⟨rt, rowsW a rt, _, rfl, ⟨fun w hv => tab_all hok.2.1 (hR.sub w hv), hxl⟩, rfl⟩)) ?_
          -- made.append((route, rows[0], outcome))
          rcases outF_cases (t := tabB (ws.zip bs)) (l := rt) (xs := rowsW a rt) with ho | ⟨k, ho, hk⟩
          · skip
            rw [ho]
            show SV _ _ _ _ [_, _, _, _, _, _, _, _, _, _, .im (.tuple [.str "passed"])] _
            -- made.append((route, rows[0], outcome))
            refine sv_app 6 rfl (evTup (eaC (evV 8 rfl) (eaC (evIx (by first | exact (evV 9 rfl).seqT | exact (evV 9 rfl).seq | exact esO 9 rfl | exact EV.seqQ (evV 9 rfl)) evI (by walk_at "Tp.at")) (eaC (evV 10 rfl) eaN)))) (by walk_at "Tp.len") ?_
            -- if outcome == ('passed',):
            refine sv_ifX (etCmp (by first | exact (evV 10 rfl).h | exact (esO 10 rfl).h) (EV.h (evTup (eaC evStr eaN))) (by walk_at "Tp.eq")) (fun h162 => ?_) (fun h162 => ?_)
            · skip
              -- return made
              refine sv_retO 6 rfl ?_
              show Q _
              refine rt_is hQ (congrArg Rs.nl ?_)
              rw [← hM, hni, att_pass hch ho, ats_snoc]
              rfl
            · skip
              -- limits = taught(limits, route, rows, outcome)
              exfalso
              rw [eqv_same (n := 2) (.tup (.cons (.str (by decide +kernel)) .nil))] at h162
              cases h162
              skip
          · skip
            rw [ho]
            show SV _ _ _ _ [_, _, _, _, _, _, _, _, _, _, .im (.tuple [.str "lacks", .int (k : Int)])] _
            have htm := tauF_len (L := L1) (l := rt) (xs := rowsW a rt) (o := .lacks (k : Int)) ⟨by omega, by omega⟩
            -- made.append((route, rows[0], outcome))
            refine sv_app 6 rfl (evTup (eaC (evV 8 rfl) (eaC (evIx (by first | exact (evV 9 rfl).seqT | exact (evV 9 rfl).seq | exact esO 9 rfl | exact EV.seqQ (evV 9 rfl)) evI (by walk_at "Tp.at")) (eaC (evV 10 rfl) eaN)))) (by walk_at "Tp.len") ?_
            -- if outcome == ('passed',):
            refine sv_ifX (etCmp (by first | exact (evV 10 rfl).h | exact (esO 10 rfl).h) (EV.h (evTup (eaC evStr eaN))) (by walk_at "Tp.eq")) (fun h162 => ?_) (fun h162 => ?_)
            · skip
              -- return made
              refine sv_retO 6 rfl ?_
              show Q _
              exfalso
              simp [PyData.eqv, PyData.eqvAll] at h162
            · skip
              -- limits = taught(limits, route, rows, outcome)
              refine sv_asg 2 g (EC.evL (ecCall g C_taught (by decide) (eaC (evV 2 rfl) (eaC (evV 8 rfl) (eaC (evV 9 rfl) (eaC (evV 10 rfl) eaN)))) ⟨_, rt, rowsW a rt, .lacks (k : Int), rfl, ⟨⟨by omega, by omega⟩, hxl, by omega, by omega⟩, rfl⟩)) ?_
              refine sv_nil ?_
              refine loop_nx (q' := [.im (.list (wys ws)), .im (.list (itD bs)), .im (.list (lms (tauF L1 rt (rowsW a rt) (.lacks (k : Int))))), .im (.tuple [.int src, .int tgt, .int a, .int hops]), .im (.int n), .im (tabD (tabB (ws.zip bs))), .ol p6_154 (M.map (attD a) ++ [attD a (rt, .lacks (k : Int))]), .no, .no, .no, .no]) ?_ ⟨tauF L1 rt (rowsW a rt) (.lacks (k : Int)), M ++ [(rt, .lacks (k : Int))], ?_, ?_, ?_, ?_⟩
              · walk_at "Tp.wk"
              · rw [← hM, hni, att_more hch ho, List.append_assoc, show n.toNat - (i + 1) = ni from by omega]; first | done | rfl
              · omega
              · rw [List.length_append]; show M.length + 1 ≤ i + 1; omega
              · rw [ats_snoc]
      · obtain ⟨L1, M, hM, hL1, hMl, rfl⟩ := hI
        -- return made
        refine sv_retO 6 rfl ?_
        show Q _
        refine rt_is hQ (congrArg Rs.nl ?_)
        rw [← hM, Nat.sub_self]
        unfold attF
        rw [List.append_nil]
  · skip
    skip
    -- check_request(ways, limits, request)
    refine sv_dropX (Ex := fun C => C = xs.OutOfBounds) (EC.exc (ecCall g C_check_request (by decide) (eaC (evV 0 rfl) (eaC (evV 2 rfl) (eaC (evV 3 rfl) eaN))) ⟨false, wys ws, L, .int src, .int tgt, a, hops, rfl, fun z => absurd z hr, fun _ => rfl⟩)) (fun C hC => ?_)
    subst hC
    rw [wys_len] at hr
    exact hE fun z => hr z.1
end
end Tp
namespace Tp
open PySem L2
section
variable {P : Program} {w : World} {K : PySem.W.Frag} {mg : Str → Option Value} {base : Heap}
/-! _law_number -/
theorem sc__law_number : FnScope ["_law_script", "_law_k", "_law_cell", "_law_first", "_law_second"] ["_law_script", "_law_k"] (defScope s__law_number) := ⟨rfl, rfl, rfl, by decide +kernel, rfl, by decide +kernel, by decide +kernel⟩
theorem ok__law_number {xs : Xs} {f : Addr} {fd : FuncData} (F : Fun K "_law_number" "_law_number" s__law_number f fd) (T : Txt K mg xs) : FnOk P w K mg base (L2.CX P w) 1 f fd ["_law_script", "_law_k"] (spD [] K (c__law_number xs)) := by
  refine fn_d F sc__law_number (fun ds Q E h => by obtain ⟨_, _, rfl, _⟩ := h; rfl) fun cdv A outer s H H0 E qs ds Q Ex g hc => ?_
  obtain ⟨ns, k, rfl, hpre, hQ⟩ := hc
  show SV _ _ _ _ [.im (PyData.list (ns.map PyData.int)), .im (.int k), .no, .no, .no] _
  -- _law_cell = 0
  refine sv_asg 2 g evI ?_
  -- if _law_k < len(_law_script):
  refine sv_ifI 2 g (etCmp (by first | exact (evV 1 rfl).h | exact (esO 1 rfl).h) (EV.h (evLen (by first | exact (evV 0 rfl).seqT | exact (evV 0 rfl).seq | exact esO 0 rfl | exact EV.seqQ (evV 0 rfl)) T.b_len)) cv_lt) rfl (fun h169 => (evIx (by first | exact (evV 0 rfl).seqT | exact (evV 0 rfl).seq | exact esO 0 rfl | exact EV.seqQ (evV 0 rfl)) (evV 1 rfl) (by walk_at "Tp.at"))) ?_
  -- if _law_cell < 0:
  refine sv_ifI 2 g (etCmp (by first | exact (evV 2 rfl).h | exact (esO 2 rfl).h) (EV.h evI) cv_lt) rfl (fun h171 => (evBin (evBin evI (evBin evI (evV 2 rfl) (by walk_at "Tp.mul")) ov_sub) evI ov_sub)) ?_
  -- if _law_cell >= 10 ** 9:
  show SV _ _ _ _ [_, _, .im (.int (cell ns k)), .no, .no] _
  generalize hc : cell ns k = c
  refine sv_ifX (etCmp (by first | exact (evV 2 rfl).h | exact (esO 2 rfl).h) (EV.h (evBin evI evI (by walk_at "Tp.pow"))) cv_ge) (fun h173 => ?_) (fun h173 => ?_)
  · skip
    -- return _law_cell
    refine sv_ret (evV 2 rfl) ?_
    show Q _
    refine rt_is hQ (congrArg (fun z => Rs.da (PyData.int z)) ?_)
    unfold num
    rw [hc, if_pos (by walk_at "Tp.pre")]
  · skip
    -- _law_first = int(_law_cell * 48271 + _law_k * 69621 + 11) % 2147483647
    refine sv_asg 3 g (evBin (by first | exact evInt (evBin (evBin (evBin (evV 2 rfl) evI (by walk_at "Tp.mul")) (evBin (evV 1 rfl) evI (by walk_at "Tp.mul")) (by walk_at "Tp.add")) evI (by walk_at "Tp.add")) T.b_int | exact evIntB (evBin (evBin (evBin (evV 2 rfl) evI (by walk_at "Tp.mul")) (evBin (evV 1 rfl) evI (by walk_at "Tp.mul")) (by walk_at "Tp.add")) evI (by walk_at "Tp.add")) T.b_int) evI (ov_mod (by walk_at "Tp.pre"))) ?_
    -- _law_first = int(_law_first * 16807 + _law_k * 12345 + 99991) % 2147483629
    refine sv_asg 3 g (evBin (by first | exact evInt (evBin (evBin (evBin (evV 3 rfl) evI (by walk_at "Tp.mul")) (evBin (evV 1 rfl) evI (by walk_at "Tp.mul")) (by walk_at "Tp.add")) evI (by walk_at "Tp.add")) T.b_int | exact evIntB (evBin (evBin (evBin (evV 3 rfl) evI (by walk_at "Tp.mul")) (evBin (evV 1 rfl) evI (by walk_at "Tp.mul")) (by walk_at "Tp.add")) evI (by walk_at "Tp.add")) T.b_int) evI (ov_mod (by walk_at "Tp.pre"))) ?_
    -- _law_second = int(_law_first * 40692 + _law_k * 3791 + _law_cell) % 2147483399
    refine sv_asg 4 g (evBin (by first | exact evInt (evBin (evBin (evBin (evV 3 rfl) evI (by walk_at "Tp.mul")) (evBin (evV 1 rfl) evI (by walk_at "Tp.mul")) (by walk_at "Tp.add")) (evV 2 rfl) (by walk_at "Tp.add")) T.b_int | exact evIntB (evBin (evBin (evBin (evV 3 rfl) evI (by walk_at "Tp.mul")) (evBin (evV 1 rfl) evI (by walk_at "Tp.mul")) (by walk_at "Tp.add")) (evV 2 rfl) (by walk_at "Tp.add")) T.b_int) evI (ov_mod (by walk_at "Tp.pre"))) ?_
    -- _law_second = int(_law_second * 69621 + 7) % 2147483647
    refine sv_asg 4 g (evBin (by first | exact evInt (evBin (evBin (evV 4 rfl) evI (by walk_at "Tp.mul")) evI (by walk_at "Tp.add")) T.b_int | exact evIntB (evBin (evBin (evV 4 rfl) evI (by walk_at "Tp.mul")) evI (by walk_at "Tp.add")) T.b_int) evI (ov_mod (by walk_at "Tp.pre"))) ?_
    -- return _law_first * 2147483647 + _law_second
    refine sv_ret (evBin (evBin (evV 3 rfl) evI (by walk_at "Tp.mul")) (evV 4 rfl) (by walk_at "Tp.add")) ?_
    show Q _
    refine rt_is hQ (congrArg (fun z => Rs.da (PyData.int z)) ?_)
    unfold num numS numF
    rw [hc, if_neg (by walk_at "Tp.pre")]
end
end Tp
namespace Tp
open PySem L2
section
variable {P : Program} {w : World} {K : PySem.W.Frag} {mg : Str → Option Value} {base : Heap}
/-! _law_found -/
theorem sc__law_found : FnScope ["_law_ways", "_law_limits", "_law_request", "e"] ["_law_ways", "_law_limits", "_law_request"] (defScope s__law_found) := ⟨rfl, rfl, rfl, by decide +kernel, rfl, by decide +kernel, by decide +kernel⟩
theorem ok__law_found {xs : Xs} {f : Addr} {fd : FuncData} (F : Fun K "_law_found" "_law_found" s__law_found f fd) (T : Txt K mg xs) (C_find_route : Cal P w [] K mg base "find_route" 6 (c_find_route xs)) : FnOk P w K mg base (L2.CX P w) 7 f fd ["_law_ways", "_law_limits", "_law_request"] (spD [] K (c__law_found xs)) := by
  refine fn_d F sc__law_found (fun ds Q E h => by obtain ⟨_, _, _, _, _, _, rfl, _⟩ := h; rfl) fun cdv A outer s H H0 E qs ds Q Ex g hc => ?_
  obtain ⟨ws, L, src, tgt, a, hops, rfl, ⟨hT, hm, hwl, hLl⟩, hQ, hQ1⟩ := hc
  show SV _ _ _ _ [.im (.list (wys ws)), .im (.list (lms L)), .im (.tuple [.int src, .int tgt, .int a, .int hops]), .no] _
  -- try:
  refine sv_try g (fun pn xe W1 g6 => ?_) (HdsD.named (i := 3) rfl rfl ⟨rfl, by decide, Or.inl T.x_TurnpikeError.gC⟩ HdsD.nil)
  -- find_route(_law_ways, _law_limits, _law_request, 0)
  by_cases hr : reqOk ws.length L a hops
  · skip
    skip
    -- find_route(_law_ways, _law_limits, _law_request, 0)
    refine sv_dropC (Po := fun _ => True) (Ex := fun _ => False) (ecCall g6 C_find_route (by decide) (eaC (evV 0 rfl) (eaC (evV 1 rfl) (eaC (evV 2 rfl) (eaC evI eaN)))) ⟨ws, L, src, tgt, a, hops, 0, rfl, ⟨hT, hm⟩, fun _ => trivial, fun z => absurd hr z⟩) ?_ (fun _ z => z.elim)
    refine sv_nil ?_
    show SV _ _ _ _ _ _
    -- return 0
    refine sv_ret evI ?_
    show Q _
    exact hQ hr
  · skip
    skip
    -- find_route(_law_ways, _law_limits, _law_request, 0)
    refine sv_dropX (Ex := fun C => C = xs.OutOfBounds) (EC.exc (ecCall g6 C_find_route (by decide) (eaC (evV 0 rfl) (eaC (evV 1 rfl) (eaC (evV 2 rfl) (eaC evI eaN)))) ⟨ws, L, src, tgt, a, hops, 0, rfl, ⟨hT, hm⟩, fun z => absurd z hr, fun _ => rfl⟩)) (fun C hC => ?_)
    subst hC
    refine Or.inl ⟨XcT.exm T.x_TurnpikeError T.s_OutOfBounds_TurnpikeError, fun a oe pn hs => ?_⟩
    show SV _ _ _ _ _ _
    -- if not isinstance(e, OutOfBounds) or isinstance(e, TooMuchMoney):
    refine sv_ifF (EW.t (by first | exact ewOrT (etNot (etV (evIsX 3 hs rfl T.x_OutOfBounds.cl T.x_OutOfBounds.gC (XcT.kit T.x_OutOfBounds T.s_OutOfBounds_OutOfBounds T.s_OutOfBounds_OutOfBounds) T.b_isinstance))) | exact ewOr (etNot (etV (evIsX 3 hs rfl T.x_OutOfBounds.cl T.x_OutOfBounds.gC (XcT.kit T.x_OutOfBounds T.s_OutOfBounds_OutOfBounds T.s_OutOfBounds_OutOfBounds) T.b_isinstance))) fun hb => (ewOr1 (etV (evIsX 3 hs rfl T.x_OutOfBounds.cl T.x_TooMuchMoney.gC (XcT.kit T.x_TooMuchMoney T.s_OutOfBounds_OutOfBounds T.s_OutOfBounds_TooMuchMoney) T.b_isinstance))))) ?_
    refine sv_nil ?_
    show SV _ _ _ _ _ _
    -- return 1
    refine sv_ret evI ?_
    show Q _
    exact hQ1 hr
end
end Tp
namespace Tp
open PySem L2
section
variable {P : Program} {w : World} {K : PySem.W.Frag} {mg : Str → Option Value} {base : Heap}
/-! _law_tried -/
theorem sc__law_tried : FnScope ["_law_ways", "_law_balances", "_law_limits", "_law_request", "_law_attempts", "e"] ["_law_ways", "_law_balances", "_law_limits", "_law_request", "_law_attempts"] (defScope s__law_tried) := ⟨rfl, rfl, rfl, by decide +kernel, rfl, by decide +kernel, by decide +kernel⟩
theorem ok__law_tried {xs : Xs} {f : Addr} {fd : FuncData} (F : Fun K "_law_tried" "_law_tried" s__law_tried f fd) (T : Txt K mg xs) (N_try_routes_0 : CalN P w [] K mg base "try_routes" 6 (c_try_routes xs) 4 ["attempts"] []) : FnOk P w K mg base (L2.CX P w) 7 f fd ["_law_ways", "_law_balances", "_law_limits", "_law_request", "_law_attempts"] (spD [] K (c__law_tried xs)) := by
  refine fn_d F sc__law_tried (fun ds Q E h => by obtain ⟨_, _, _, _, _, _, _, _, rfl, _⟩ := h; rfl) fun cdv A outer s H H0 E qs ds Q Ex g hc => ?_
  obtain ⟨ws, bs, L, src, tgt, a, hops, n, rfl, ⟨hT, hm, hwl, hLl⟩, hQ, hQ1⟩ := hc
  show SV _ _ _ _ [.im (.list (wys ws)), .im (.list (itD bs)), .im (.list (lms L)), .im (.tuple [.int src, .int tgt, .int a, .int hops]), .im (.int n), .no] _
  -- try:
  refine sv_try g (fun pn xe W1 g7 => ?_) (HdsD.named (i := 5) rfl rfl ⟨rfl, by decide, Or.inl T.x_TurnpikeError.gC⟩ HdsD.nil)
  -- try_routes(_law_ways, _law_balances, _law_limits, _law_request, attempts=_law_attempts)
  by_cases hr : tryOk ws bs L a hops n
  · skip
    skip
    -- try_routes(_law_ways, _law_balances, _law_limits, _law_request, attempts=_law_attempts)
    refine sv_dropC (Po := fun _ => True) (Ex := fun _ => False) (ecCallN g7 N_try_routes_0 (by decide) (eaC (evV 0 rfl) (eaC (evV 1 rfl) (eaC (evV 2 rfl) (eaC (evV 3 rfl) eaN)))) (ekwC (evV 4 rfl) ekwN) ⟨ws, bs, L, src, tgt, a, hops, n, rfl, hT, fun _ => trivial, fun z => absurd hr z⟩) ?_ (fun _ z => z.elim)
    refine sv_nil ?_
    show SV _ _ _ _ _ _
    -- return 0
    refine sv_ret evI ?_
    show Q _
    exact hQ hr
  · skip
    skip
    -- try_routes(_law_ways, _law_balances, _law_limits, _law_request, attempts=_law_attempts)
    refine sv_dropX (Ex := fun C => C = xs.OutOfBounds) (EC.exc (ecCallN g7 N_try_routes_0 (by decide) (eaC (evV 0 rfl) (eaC (evV 1 rfl) (eaC (evV 2 rfl) (eaC (evV 3 rfl) eaN)))) (ekwC (evV 4 rfl) ekwN) ⟨ws, bs, L, src, tgt, a, hops, n, rfl, hT, fun z => absurd z hr, fun _ => rfl⟩)) (fun C hC => ?_)
    subst hC
    refine Or.inl ⟨XcT.exm T.x_TurnpikeError T.s_OutOfBounds_TurnpikeError, fun a oe pn hs => ?_⟩
    show SV _ _ _ _ _ _
    -- if not isinstance(e, OutOfBounds) or isinstance(e, TooMuchMoney):
    refine sv_ifF (EW.t (by first | exact ewOrT (etNot (etV (evIsX 5 hs rfl T.x_OutOfBounds.cl T.x_OutOfBounds.gC (XcT.kit T.x_OutOfBounds T.s_OutOfBounds_OutOfBounds T.s_OutOfBounds_OutOfBounds) T.b_isinstance))) | exact ewOr (etNot (etV (evIsX 5 hs rfl T.x_OutOfBounds.cl T.x_OutOfBounds.gC (XcT.kit T.x_OutOfBounds T.s_OutOfBounds_OutOfBounds T.s_OutOfBounds_OutOfBounds) T.b_isinstance))) fun hb => (ewOr1 (etV (evIsX 5 hs rfl T.x_OutOfBounds.cl T.x_TooMuchMoney.gC (XcT.kit T.x_TooMuchMoney T.s_OutOfBounds_OutOfBounds T.s_OutOfBounds_TooMuchMoney) T.b_isinstance))))) ?_
    refine sv_nil ?_
    show SV _ _ _ _ _ _
    -- return 1
    refine sv_ret evI ?_
    show Q _
    exact hQ1 hr
end
end Tp
namespace Tp
open PySem L2
section
variable {P : Program} {w : World} {K : PySem.W.Frag} {mg : Str → Option Value} {base : Heap}
/-! _law_learnt -/
theorem sc__law_learnt : FnScope ["_law_limits", "_law_route", "_law_amount", "e"] ["_law_limits", "_law_route", "_law_amount"] (defScope s__law_learnt) := ⟨rfl, rfl, rfl, by decide +kernel, rfl, by decide +kernel, by decide +kernel⟩
theorem ok__law_learnt {xs : Xs} {f : Addr} {fd : FuncData} (F : Fun K "_law_learnt" "_law_learnt" s__law_learnt f fd) (T : Txt K mg xs) (C_learn : Cal P w [] K mg base "learn" 4 (c_learn xs)) : FnOk P w K mg base (L2.CX P w) 5 f fd ["_law_limits", "_law_route", "_law_amount"] (spD [] K (c__law_learnt xs)) := by
  refine fn_d F sc__law_learnt (fun ds Q E h => by obtain ⟨_, _, _, rfl, _⟩ := h; rfl) fun cdv A outer s H H0 E qs ds Q Ex g hc => ?_
  obtain ⟨L, ws, a, rfl, ⟨hwk, hwl, hLl⟩, hQ, hQ1, hQ2⟩ := hc
  show SV _ _ _ _ [.im (.list (lms L)), .im (.tuple (wys ws)), .im (.int a), .no] _
  -- try:
  refine sv_try g (fun pn xe W1 g8 => ?_) (HdsD.named (i := 3) rfl rfl ⟨rfl, by decide, Or.inl T.x_OutOfBounds.gC⟩ (HdsD.named (i := 3) rfl rfl ⟨rfl, by decide, Or.inl T.x_TooMuchMoney.gC⟩ HdsD.nil))
  -- learn(_law_limits, _law_route, _law_amount, ('passed',))
  by_cases hr : rowsOk ws.length L a
  · skip
    skip
    -- learn(_law_limits, _law_route, _law_amount, ('passed',))
    by_cases hl : ∀ x ∈ ldR a ws.reverse, x ≤ 1000000000000000
    · skip
      skip
      -- learn(_law_limits, _law_route, _law_amount, ('passed',))
      refine sv_dropC (Po := fun _ => True) (Ex := fun _ => False) (ecCall g8 C_learn (by decide) (eaC (evV 0 rfl) (eaC (evV 1 rfl) (eaC (evV 2 rfl) (eaC (evTup (eaC evStr eaN)) eaN)))) ⟨L, ws, a, .passed, rfl, ⟨hwk, trivial, hwl, hLl⟩, fun _ _ => trivial, fun z => absurd hr z, fun _ z => absurd hl z⟩) ?_ (fun _ z => z.elim)
      refine sv_nil ?_
      show SV _ _ _ _ _ _
      -- return 0
      refine sv_ret evI ?_
      show Q _
      exact hQ hr hl
    · skip
      skip
      -- learn(_law_limits, _law_route, _law_amount, ('passed',))
      refine sv_dropX (Ex := fun C => C = xs.TooMuchMoney) (EC.exc (ecCall g8 C_learn (by decide) (eaC (evV 0 rfl) (eaC (evV 1 rfl) (eaC (evV 2 rfl) (eaC (evTup (eaC evStr eaN)) eaN)))) ⟨L, ws, a, .passed, rfl, ⟨hwk, trivial, hwl, hLl⟩, fun _ z => absurd z hl, fun z => absurd hr z, fun _ _ => rfl⟩)) (fun C hC => ?_)
      subst hC
      refine Or.inr ⟨XcT.exm T.x_OutOfBounds T.s_TooMuchMoney_OutOfBounds, ?_⟩
      refine Or.inl ⟨XcT.exm T.x_TooMuchMoney T.s_TooMuchMoney_TooMuchMoney, fun a oe pn hs => ?_⟩
      show SV _ _ _ _ _ _
      -- if not isinstance(e, TurnpikeError):
      refine sv_ifF (etNot (etV (evIsX 3 hs rfl T.x_TooMuchMoney.cl T.x_TurnpikeError.gC (XcT.kit T.x_TurnpikeError T.s_TooMuchMoney_TooMuchMoney T.s_TooMuchMoney_TurnpikeError) T.b_isinstance))) ?_
      refine sv_nil ?_
      show SV _ _ _ _ _ _
      -- return 2
      refine sv_ret evI ?_
      show Q _
      exact hQ2 hr hl
  · skip
    skip
    -- learn(_law_limits, _law_route, _law_amount, ('passed',))
    refine sv_dropX (Ex := fun C => C = xs.OutOfBounds) (EC.exc (ecCall g8 C_learn (by decide) (eaC (evV 0 rfl) (eaC (evV 1 rfl) (eaC (evV 2 rfl) (eaC (evTup (eaC evStr eaN)) eaN)))) ⟨L, ws, a, .passed, rfl, ⟨hwk, trivial, hwl, hLl⟩, fun z _ => absurd z hr, fun _ => rfl, fun z _ => absurd z hr⟩)) (fun C hC => ?_)
    subst hC
    refine Or.inl ⟨XcT.exm T.x_OutOfBounds T.s_OutOfBounds_OutOfBounds, fun a oe pn hs => ?_⟩
    show SV _ _ _ _ _ _
    -- if isinstance(e, TooMuchMoney):
    refine sv_ifF (etV (evIsX 3 hs rfl T.x_OutOfBounds.cl T.x_TooMuchMoney.gC (XcT.kit T.x_TooMuchMoney T.s_OutOfBounds_OutOfBounds T.s_OutOfBounds_TooMuchMoney) T.b_isinstance)) ?_
    refine sv_nil ?_
    show SV _ _ _ _ _ _
    -- return 1
    refine sv_ret evI ?_
    show Q _
    exact hQ1 hr
end
end Tp
namespace Tp
open PySem L2
section
variable {P : Program} {w : World} {K : PySem.W.Frag} {mg : Str → Option Value} {base : Heap}
/-! law -/
theorem sc_law : FnScope ["_law_script", "_law_number_here", "_law_many", "_law_rows", "_law_ways", "_law_k", "_law_limits", "_law_double", "_law_amount", "_law_hops", "_law_attempts", "_law_short", "_law_money", "_law_way", "_law_wrong", "_law_request", "_law_due"] ["_law_script"] (defScope s_law) := ⟨rfl, rfl, rfl, by decide +kernel, rfl, by decide +kernel, by decide +kernel⟩
theorem ok_law {xs : Xs} {f : Addr} {fd : FuncData} (F : Fun K "law" "law" s_law f fd) (T : Txt K mg xs) (C__law_number : Cal P w [] K mg base "_law_number" 1 (c__law_number xs)) (C__law_found : Cal P w [] K mg base "_law_found" 7 (c__law_found xs)) (C__law_tried : Cal P w [] K mg base "_law_tried" 7 (c__law_tried xs)) (C__law_learnt : Cal P w [] K mg base "_law_learnt" 5 (c__law_learnt xs)) : FnOk P w K mg base (L2.CX P w) 8 f fd ["_law_script"] (spD [] K (c_law xs)) := by
  refine fn_d F sc_law (fun ds Q E h => by obtain ⟨_, rfl, _⟩ := h; rfl) fun cdv A outer s H H0 E qs ds Q Ex g hc => ?_
  obtain ⟨ns, rfl, hpre, hQ⟩ := hc
  show SV _ _ _ _ [.im (PyData.list (ns.map PyData.int)), .no, .no, .no, .no, .no, .no, .no, .no, .no, .no, .no, .no, .no, .no, .no, .no] _
  -- _law_number_here = _law_number(_law_script, 0)
  refine sv_asg 1 g (EC.ev (ecCall g C__law_number (by decide) (eaC (evV 0 rfl) (eaC evI eaN)) ⟨_, _, rfl, by walk_at "Tp.pre", rfl⟩)) ?_
  -- _law_many = [59, 60, 61, 2, 0, 1][int(_law_number_here) % 6]
  have h0 := num_nn ns 0
  have hM : 0 ≤ ([59, 60, 61, 2, 0, 1] : List Int).getD (num ns 0 % 6).toNat 0 ∧ ([59, 60, 61, 2, 0, 1] : List Int).getD (num ns 0 % 6).toNat 0 ≤ 61 := getD_in ⟨by decide, by decide⟩ (by decide) _
  have hR : 0 ≤ ([59, 60, 61, 2, 0, 1] : List Int).getD (num ns 0 / 6 % 6).toNat 0 ∧ ([59, 60, 61, 2, 0, 1] : List Int).getD (num ns 0 / 6 % 6).toNat 0 ≤ 61 := getD_in ⟨by decide, by decide⟩ (by decide) _
  refine sv_asg 2 g (evIx (EV.seq (evLst (eaC evI (eaC evI (eaC evI (eaC evI (eaC evI (eaC evI eaN)))))))) (evBin (by first | exact evInt (evV 1 rfl) T.b_int | exact evIntB (evV 1 rfl) T.b_int) evI (ov_mod (by walk_at "Tp.pre"))) (by exact atI_ints (ns := [59, 60, 61, 2, 0, 1]) (by walk_at "Tp.pre") (by walk_at "Tp.pre"))) ?_
  -- _law_rows = [59, 60, 61, 2, 0, 1][int(_law_number_here) // 6 % 6]
  refine sv_asg 3 g (evIx (EV.seq (evLst (eaC evI (eaC evI (eaC evI (eaC evI (eaC evI (eaC evI eaN)))))))) (evBin (evBin (by first | exact evInt (evV 1 rfl) T.b_int | exact evIntB (evV 1 rfl) T.b_int) evI (by walk_at "Tp.div")) evI (ov_mod (by walk_at "Tp.pre"))) (by exact atI_ints (ns := [59, 60, 61, 2, 0, 1]) (by walk_at "Tp.pre") (by walk_at "Tp.pre"))) ?_
  -- _law_ways = [(_law_k, int(_law_k) % 3, int(_law_k + 1) % 3, (1, 0, 1), 10 ** 15) for _law_k in range
  generalize ([59, 60, 61, 2, 0, 1] : List Int).getD (num ns 0 % 6).toNat 0 = m at hM ⊢
  generalize ([59, 60, 61, 2, 0, 1] : List Int).getD (num ns 0 / 6 % 6).toNat 0 = q at hR ⊢
  refine sv_asgLc 4 (evLcR 5 g (evV 2 rfl) (by walk_at "Tp.len") T.b_range lt_nil (fun s9 H9 C9 cl9 fp9 B9 q9 i9 hi9 hb9 => (evTup (eaC (evV 5 rfl) (eaC (evBin (by first | exact evInt (evV 5 rfl) T.b_int | exact evIntB (evV 5 rfl) T.b_int) evI (ov_mod (by walk_at "Tp.pre"))) (eaC (evBin (by first | exact evInt (evBin (evV 5 rfl) evI (by walk_at "Tp.add")) T.b_int | exact evIntB (evBin (evV 5 rfl) evI (by walk_at "Tp.add")) T.b_int) evI (ov_mod (by walk_at "Tp.pre"))) (eaC (evTup (eaC evI (eaC evI (eaC evI eaN)))) (eaC (evBin evI evI (by walk_at "Tp.pow")) eaN)))))))) ?_
  -- _law_limits = [(_law_k, int(_law_k) % 2, 0, None) for _law_k in range(_law_rows)]
  rw [wsK_is]
  have hwl := wsK_len m.toNat
  have hwo := wsK_ok m.toNat
  generalize wsK m.toNat = ws at hwl hwo ⊢
  refine sv_asgLc 6 (evLcR 5 g (evV 3 rfl) (by walk_at "Tp.len") T.b_range lt_nil (fun s10 H10 C10 cl10 fp10 B10 q10 i10 hi10 hb10 => (evTup (eaC (evV 5 rfl) (eaC (evBin (by first | exact evInt (evV 5 rfl) T.b_int | exact evIntB (evV 5 rfl) T.b_int) evI (ov_mod (by walk_at "Tp.pre"))) (eaC evI (eaC evN eaN))))))) ?_
  -- _law_double = int(_law_number_here) // 36 % 3 == 0 and _law_rows > 0
  rw [lmsK_is]
  refine sv_asg 7 g (evAnd (evCmp (EV.h (evBin (evBin (by first | exact evInt (evV 1 rfl) T.b_int | exact evIntB (evV 1 rfl) T.b_int) evI (by walk_at "Tp.div")) evI (ov_mod (by walk_at "Tp.pre")))) (EV.h evI) (by walk_at "Tp.eq")) fun hb => (evOne (evCmp (by first | exact (evV 3 rfl).h | exact (esO 3 rfl).h) (EV.h evI) cv_gt))) ?_
  refine sv_seqN 2 (fun r' => ∃ (L : List Lm) (db : Bool), (UqL L ↔ db = false) ∧ L.length ≤ 61 ∧ r' = [.im (.list (ns.map PyData.int)), .im (.int (num ns 0)), .im (.int m), .im (.int q), .im (.list (wys ws)), .no, .im (.list (lms L)), .im (.bool db), .no, .no, .no, .no, .no, .no, .no, .no, .no]) ?_ (fun r' hI => ?_)
  · skip
    -- if _law_double and _law_rows < 60:
    rcases hdb : (decide (num ns 0 / 36 % 3 = 0) && decide (0 < q)) with _ | _
    · skip
      have hU := lmsK_uq q.toNat
      have hLl := lmsK_len q.toNat
      generalize lmsK q.toNat = L at hU hLl ⊢
      -- if _law_double and _law_rows < 60:
      refine sv_ifF (EW.t (ewAnd (by first | exact etV (evV 7 rfl) | exact etL (by first | exact (evV 7 rfl).seqT | exact (evV 7 rfl).seq | exact esO 7 rfl | exact EV.seqQ (evV 7 rfl)) | exact etI (evV 7 rfl)) fun hb => (ewAnd1 (etCmp (by first | exact (evV 3 rfl).h | exact (esO 3 rfl).h) (EV.h evI) cv_lt)))) ?_
      refine sv_nil ?_
      show SV _ _ _ _ _ _
      -- if _law_double and _law_rows >= 60:
      refine sv_ifF (EW.t (ewAnd (by first | exact etV (evV 7 rfl) | exact etL (by first | exact (evV 7 rfl).seqT | exact (evV 7 rfl).seq | exact esO 7 rfl | exact EV.seqQ (evV 7 rfl)) | exact etI (evV 7 rfl)) fun hb => (ewAnd1 (etCmp (by first | exact (evV 3 rfl).h | exact (esO 3 rfl).h) (EV.h evI) cv_ge)))) ?_
      refine sv_nil ?_
      show SV _ _ _ _ _ _
      refine sv_nil ?_
      show ∃ (L : List Lm) (db : Bool), (UqL L ↔ db = false) ∧ L.length ≤ 61 ∧ _ = ([.im (.list (ns.map PyData.int)), .im (.int (num ns 0)), .im (.int m), .im (.int q), .im (.list (wys ws)), .no, .im (.list (lms L)), .im (.bool db), .no, .no, .no, .no, .no, .no, .no, .no, .no] : List Sl)
      first
      | exact ⟨L, false, ⟨fun _ => rfl, fun _ => hU⟩, by omega, rfl⟩
      | exact ⟨(lmsK q.toNat ++ [(⟨(lmK (num ns 0 / 108 % q).toNat).ch, (lmK (num ns 0 / 108 % q).toNat).gv, 7, some 9⟩ : Lm)]), true, ⟨fun z => absurd z (uq_twice (x := ⟨(lmK (num ns 0 / 108 % q).toNat).ch, (lmK (num ns 0 / 108 % q).toNat).gv, 7, some 9⟩) (y := lmK (num ns 0 / 108 % q).toNat) (lmsK_mem (by omega)) rfl rfl), fun z => nomatch z⟩, by rw [List.length_append, hl6]; show q.toNat + 1 ≤ 61; omega, by rw [dbl1]; rfl⟩
      | exact ⟨((lmsK q.toNat).take (q - 1).toNat ++ [lmK (num ns 0 / 108 % (q - 1)).toNat]), true, ⟨fun z => absurd z (uq_twice (x := lmK (num ns 0 / 108 % (q - 1)).toNat) (y := lmK (num ns 0 / 108 % (q - 1)).toNat) (lmsK_tk (by omega) (by omega)) rfl rfl), fun z => nomatch z⟩, by rw [List.length_append, List.length_take, hl6]; show _ + 1 ≤ 61; omega, by rw [dbl2 _ (q - 1) (by omega)]; rfl⟩
    · skip
      have hq : 0 < q := of_decide_eq_true (Bool.and_eq_true_iff.mp hdb).2
      have hl6 := lmsK_len q.toNat
      have hl7 := lms_len (lmsK q.toNat)
      -- if _law_double and _law_rows < 60:
      by_cases hq6 : q < 60
      · skip
        have hmo := Int.emod_nonneg (num ns 0 / 108) (show q ≠ 0 by omega)
        have hml := Int.emod_lt_of_pos (num ns 0 / 108) hq
        have hat := lmsK_at (m := q.toNat) (p := num ns 0 / 108 % q) (by omega) (by omega)
        -- if _law_double and _law_rows < 60:
        refine sv_ifT (EW.t (ewAnd (by first | exact etV (evV 7 rfl) | exact etL (by first | exact (evV 7 rfl).seqT | exact (evV 7 rfl).seq | exact esO 7 rfl | exact EV.seqQ (evV 7 rfl)) | exact etI (evV 7 rfl)) fun hb => (ewAnd1 (etCmp (by first | exact (evV 3 rfl).h | exact (esO 3 rfl).h) (EV.h evI) cv_lt)))) ?_ (by exact (Bool.true_and _).trans (decide_eq_true hq6))
        -- _law_limits = _law_limits + [_law_limits[int(_law_number_here) // 108 % _law_rows][:2] + (7, 9)]
        refine sv_asg 6 g (evBin (evV 6 rfl) (evLst (eaC (evBin (EV.to (evSlTA (evIx (by first | exact (evV 6 rfl).seqT | exact (evV 6 rfl).seq | exact esO 6 rfl | exact EV.seqQ (evV 6 rfl)) (evBin (evBin (by first | exact evInt (evV 1 rfl) T.b_int | exact evIntB (evV 1 rfl) T.b_int) evI (by walk_at "Tp.div")) (evV 3 rfl) (ov_mod (by walk_at "Tp.pre"))) (by walk_at "Tp.at")) eoN (eoS evI)) (show PyData.tuple (cutD [_, _, _, _] none (some 2)) = .tuple [_, _] from rfl)) (evTup (eaC evI (eaC evI eaN))) (by walk_at "Tp.add")) eaN)) (by walk_at "Tp.add")) ?_
        refine sv_nil ?_
        show SV _ _ _ _ _ _
        -- if _law_double and _law_rows >= 60:
        refine sv_ifF (EW.t (ewAnd (by first | exact etV (evV 7 rfl) | exact etL (by first | exact (evV 7 rfl).seqT | exact (evV 7 rfl).seq | exact esO 7 rfl | exact EV.seqQ (evV 7 rfl)) | exact etI (evV 7 rfl)) fun hb => (ewAnd1 (etCmp (by first | exact (evV 3 rfl).h | exact (esO 3 rfl).h) (EV.h evI) cv_ge)))) ?_ (by exact (Bool.true_and _).trans (decide_eq_false (by omega)))
        refine sv_nil ?_
        show SV _ _ _ _ _ _
        refine sv_nil ?_
        show ∃ (L : List Lm) (db : Bool), (UqL L ↔ db = false) ∧ L.length ≤ 61 ∧ _ = ([.im (.list (ns.map PyData.int)), .im (.int (num ns 0)), .im (.int m), .im (.int q), .im (.list (wys ws)), .no, .im (.list (lms L)), .im (.bool db), .no, .no, .no, .no, .no, .no, .no, .no, .no] : List Sl)
        first
        | exact ⟨L, false, ⟨fun _ => rfl, fun _ => hU⟩, by omega, rfl⟩
        | exact ⟨(lmsK q.toNat ++ [(⟨(lmK (num ns 0 / 108 % q).toNat).ch, (lmK (num ns 0 / 108 % q).toNat).gv, 7, some 9⟩ : Lm)]), true, ⟨fun z => absurd z (uq_twice (x := ⟨(lmK (num ns 0 / 108 % q).toNat).ch, (lmK (num ns 0 / 108 % q).toNat).gv, 7, some 9⟩) (y := lmK (num ns 0 / 108 % q).toNat) (lmsK_mem (by omega)) rfl rfl), fun z => nomatch z⟩, by rw [List.length_append, hl6]; show q.toNat + 1 ≤ 61; omega, by rw [dbl1]; rfl⟩
        | exact ⟨((lmsK q.toNat).take (q - 1).toNat ++ [lmK (num ns 0 / 108 % (q - 1)).toNat]), true, ⟨fun z => absurd z (uq_twice (x := lmK (num ns 0 / 108 % (q - 1)).toNat) (y := lmK (num ns 0 / 108 % (q - 1)).toNat) (lmsK_tk (by omega) (by omega)) rfl rfl), fun z => nomatch z⟩, by rw [List.length_append, List.length_take, hl6]; show _ + 1 ≤ 61; omega, by rw [dbl2 _ (q - 1) (by omega)]; rfl⟩
      · skip
        have hmo := Int.emod_nonneg (num ns 0 / 108) (show q - 1 ≠ 0 by omega)
        have hml := Int.emod_lt_of_pos (num ns 0 / 108) (show 0 < q - 1 by omega)
        have hat := lmsK_at (m := q.toNat) (p := num ns 0 / 108 % (q - 1)) (by omega) (by omega)
        have hcl : (cutD (lms (lmsK q.toNat)) none (some (q - 1))).length ≤ 61 := by rw [cut_to (by omega), List.length_take, hl7, hl6]; omega
        -- if _law_double and _law_rows < 60:
        refine sv_ifF (EW.t (ewAnd (by first | exact etV (evV 7 rfl) | exact etL (by first | exact (evV 7 rfl).seqT | exact (evV 7 rfl).seq | exact esO 7 rfl | exact EV.seqQ (evV 7 rfl)) | exact etI (evV 7 rfl)) fun hb => (ewAnd1 (etCmp (by first | exact (evV 3 rfl).h | exact (esO 3 rfl).h) (EV.h evI) cv_lt)))) ?_ (by exact (Bool.true_and _).trans (decide_eq_false hq6))
        refine sv_nil ?_
        show SV _ _ _ _ _ _
        -- if _law_double and _law_rows >= 60:
        refine sv_ifT (EW.t (ewAnd (by first | exact etV (evV 7 rfl) | exact etL (by first | exact (evV 7 rfl).seqT | exact (evV 7 rfl).seq | exact esO 7 rfl | exact EV.seqQ (evV 7 rfl)) | exact etI (evV 7 rfl)) fun hb => (ewAnd1 (etCmp (by first | exact (evV 3 rfl).h | exact (esO 3 rfl).h) (EV.h evI) cv_ge)))) ?_ (by exact (Bool.true_and _).trans (decide_eq_true (by omega)))
        -- _law_limits = _law_limits[:_law_rows - 1] + [_law_limits[int(_law_number_here) // 108 % (_law_rows -
        refine sv_asg 6 g (evBin (evSlL (by first | exact (evV 6 rfl).seqT | exact (evV 6 rfl).seq | exact esO 6 rfl | exact EV.seqQ (evV 6 rfl)) eoN (eoS (evBin (evV 3 rfl) evI ov_sub))) (evLst (eaC (evIx (by first | exact (evV 6 rfl).seqT | exact (evV 6 rfl).seq | exact esO 6 rfl | exact EV.seqQ (evV 6 rfl)) (evBin (evBin (by first | exact evInt (evV 1 rfl) T.b_int | exact evIntB (evV 1 rfl) T.b_int) evI (by walk_at "Tp.div")) (evBin (evV 3 rfl) evI ov_sub) (ov_mod (by walk_at "Tp.pre"))) (by walk_at "Tp.at")) eaN)) (by walk_at "Tp.add")) ?_
        refine sv_nil ?_
        show SV _ _ _ _ _ _
        refine sv_nil ?_
        show ∃ (L : List Lm) (db : Bool), (UqL L ↔ db = false) ∧ L.length ≤ 61 ∧ _ = ([.im (.list (ns.map PyData.int)), .im (.int (num ns 0)), .im (.int m), .im (.int q), .im (.list (wys ws)), .no, .im (.list (lms L)), .im (.bool db), .no, .no, .no, .no, .no, .no, .no, .no, .no] : List Sl)
        first
        | exact ⟨L, false, ⟨fun _ => rfl, fun _ => hU⟩, by omega, rfl⟩
        | exact ⟨(lmsK q.toNat ++ [(⟨(lmK (num ns 0 / 108 % q).toNat).ch, (lmK (num ns 0 / 108 % q).toNat).gv, 7, some 9⟩ : Lm)]), true, ⟨fun z => absurd z (uq_twice (x := ⟨(lmK (num ns 0 / 108 % q).toNat).ch, (lmK (num ns 0 / 108 % q).toNat).gv, 7, some 9⟩) (y := lmK (num ns 0 / 108 % q).toNat) (lmsK_mem (by omega)) rfl rfl), fun z => nomatch z⟩, by rw [List.length_append, hl6]; show q.toNat + 1 ≤ 61; omega, by rw [dbl1]; rfl⟩
        | exact ⟨((lmsK q.toNat).take (q - 1).toNat ++ [lmK (num ns 0 / 108 % (q - 1)).toNat]), true, ⟨fun z => absurd z (uq_twice (x := lmK (num ns 0 / 108 % (q - 1)).toNat) (y := lmK (num ns 0 / 108 % (q - 1)).toNat) (lmsK_tk (by omega) (by omega)) rfl rfl), fun z => nomatch z⟩, by rw [List.length_append, List.length_take, hl6]; show _ + 1 ≤ 61; omega, by rw [dbl2 _ (q - 1) (by omega)]; rfl⟩
  · obtain ⟨L, db, hdU, hLl, rfl⟩ := hI
    -- _law_amount = [0, 1, 2, 10 ** 15, 10 ** 15 + 1, 10 ** 15 - 1][int(_law_number_here) // 7000 % 6]
    refine sv_asg 8 g (evIx (EV.seq (evLst (eaC evI (eaC evI (eaC evI (eaC (evBin evI evI (by walk_at "Tp.pow")) (eaC (evBin (evBin evI evI (by walk_at "Tp.pow")) evI (by walk_at "Tp.add")) (eaC (evBin (evBin evI evI (by walk_at "Tp.pow")) evI ov_sub) eaN)))))))) (evBin (evBin (by first | exact evInt (evV 1 rfl) T.b_int | exact evIntB (evV 1 rfl) T.b_int) evI (by walk_at "Tp.div")) evI (ov_mod (by walk_at "Tp.pre"))) (by walk_at "Tp.at")) ?_
    -- _law_hops = [0, 1, 12, 13, 2, 3][int(_law_number_here) // 42000 % 6]
    rw [amt_is (i := (num ns 0 / 7000 % 6).toNat) (by omega)]
    have hA := getD_in (lo := 0) (hi := 1000000000000001) ⟨by decide, by decide⟩ (l := ([0, 1, 2, 1000000000000000, 1000000000000001, 999999999999999] : List Int)) (by decide) (num ns 0 / 7000 % 6).toNat
    generalize ([0, 1, 2, 1000000000000000, 1000000000000001, 999999999999999] : List Int).getD (num ns 0 / 7000 % 6).toNat 0 = a at hA ⊢
    refine sv_asg 9 g (evIx (EV.seq (evLst (eaC evI (eaC evI (eaC evI (eaC evI (eaC evI (eaC evI eaN)))))))) (evBin (evBin (by first | exact evInt (evV 1 rfl) T.b_int | exact evIntB (evV 1 rfl) T.b_int) evI (by walk_at "Tp.div")) evI (ov_mod (by walk_at "Tp.pre"))) (by exact atI_ints (ns := [0, 1, 12, 13, 2, 3]) (by walk_at "Tp.pre") (by walk_at "Tp.pre"))) ?_
    -- _law_attempts = [0, 1, 40, 41, 2, 3][int(_law_number_here) // 252000 % 6]
    have hH := getD_in (lo := 0) (hi := 13) ⟨by decide, by decide⟩ (l := ([0, 1, 12, 13, 2, 3] : List Int)) (by decide) (num ns 0 / 42000 % 6).toNat
    generalize ([0, 1, 12, 13, 2, 3] : List Int).getD (num ns 0 / 42000 % 6).toNat 0 = hops at hH ⊢
    refine sv_asg 10 g (evIx (EV.seq (evLst (eaC evI (eaC evI (eaC evI (eaC evI (eaC evI (eaC evI eaN)))))))) (evBin (evBin (by first | exact evInt (evV 1 rfl) T.b_int | exact evIntB (evV 1 rfl) T.b_int) evI (by walk_at "Tp.div")) evI (ov_mod (by walk_at "Tp.pre"))) (by exact atI_ints (ns := [0, 1, 40, 41, 2, 3]) (by walk_at "Tp.pre") (by walk_at "Tp.pre"))) ?_
    -- _law_short = int(_law_number_here) // 1512000 % 4
    have hN := getD_in (lo := 0) (hi := 41) ⟨by decide, by decide⟩ (l := ([0, 1, 40, 41, 2, 3] : List Int)) (by decide) (num ns 0 / 252000 % 6).toNat
    generalize ([0, 1, 40, 41, 2, 3] : List Int).getD (num ns 0 / 252000 % 6).toNat 0 = n at hN ⊢
    refine sv_asg 11 g (evBin (evBin (by first | exact evInt (evV 1 rfl) T.b_int | exact evIntB (evV 1 rfl) T.b_int) evI (by walk_at "Tp.div")) evI (ov_mod (by walk_at "Tp.pre"))) ?_
    -- _law_money = [5 for _law_way in _law_ways]
    generalize num ns 0 / 1512000 % 4 = short
    refine sv_asgLc 12 (evLcQ 13 g (by first | exact (evV 4 rfl).seqT | exact (evV 4 rfl).seq | exact esO 4 rfl | exact EV.seqQ (evV 4 rfl)) (by walk_at "Tp.len") ltq_nil (fun s11 H11 C11 cl11 fp11 B11 q11 d11 hd11 hb11 => evI)) ?_
    refine sv_seqN 1 (fun r' => ∃ (bs : List Int) (sh : Bool), (bs.length = ws.length ↔ sh = false) ∧ decide (short = 1) = sh ∧ r' = [.im (.list (ns.map PyData.int)), .im (.int (num ns 0)), .im (.int m), .im (.int q), .im (.list (wys ws)), .no, .im (.list (lms L)), .im (.bool db), .im (.int a), .im (.int hops), .im (.int n), .im (.int short), .im (.list (itD bs)), .no, .no, .no, .no]) ?_ (fun r' hI => ?_)
    · skip
      rw [money_is]
      -- if _law_short == 1:
      refine sv_if (etCmp (by first | exact (evV 11 rfl).h | exact (esO 11 rfl).h) (EV.h evI) (by walk_at "Tp.eq")) (fun h224 => ?_) (fun h224 => ?_)
      · skip
        -- _law_money = _law_money + [5]
        have hl5 : (itD (ws.map (fun _ => (5 : Int)))).length + [PyData.int 5].length ≤ 100000 := by unfold itD; rw [List.length_map, List.length_map, hwl]; show _ + 1 ≤ _; omega
        refine sv_asg 12 g (evBin (evV 12 rfl) (evLst (eaC evI eaN)) (by walk_at "Tp.add")) ?_
        refine sv_nil ?_
        show SV _ _ _ _ _ _
        refine sv_nil ?_
        show ∃ (bs : List Int) (sh : Bool), (bs.length = ws.length ↔ sh = false) ∧ decide (short = 1) = sh ∧ _ = ([.im (.list (ns.map PyData.int)), .im (.int (num ns 0)), .im (.int m), .im (.int q), .im (.list (wys ws)), .no, .im (.list (lms L)), .im (.bool db), .im (.int a), .im (.int hops), .im (.int n), .im (.int short), .im (.list (itD bs)), .no, .no, .no, .no] : List Sl)
        first
        | exact ⟨ws.map (fun _ => (5 : Int)) ++ [5], true, ⟨fun z => absurd z (by rw [List.length_append, List.length_map]; show ws.length + 1 ≠ ws.length; omega), fun z => nomatch z⟩, h224, by rw [itD_snoc]; rfl⟩
        | exact ⟨ws.map (fun _ => (5 : Int)), false, ⟨fun _ => rfl, fun _ => List.length_map _⟩, h224, rfl⟩
      · skip
        refine sv_nil ?_
        show SV _ _ _ _ _ _
        refine sv_nil ?_
        show ∃ (bs : List Int) (sh : Bool), (bs.length = ws.length ↔ sh = false) ∧ decide (short = 1) = sh ∧ _ = ([.im (.list (ns.map PyData.int)), .im (.int (num ns 0)), .im (.int m), .im (.int q), .im (.list (wys ws)), .no, .im (.list (lms L)), .im (.bool db), .im (.int a), .im (.int hops), .im (.int n), .im (.int short), .im (.list (itD bs)), .no, .no, .no, .no] : List Sl)
        first
        | exact ⟨ws.map (fun _ => (5 : Int)) ++ [5], true, ⟨fun z => absurd z (by rw [List.length_append, List.length_map]; show ws.length + 1 ≠ ws.length; omega), fun z => nomatch z⟩, h224, by rw [itD_snoc]; rfl⟩
        | exact ⟨ws.map (fun _ => (5 : Int)), false, ⟨fun _ => rfl, fun _ => List.length_map _⟩, h224, rfl⟩
    · obtain ⟨bs, sh, hbs, hsh, rfl⟩ := hI
      -- _law_wrong = _law_many > 60 or len(_law_limits) > 60 or _law_double or (not 1 <= _law_amount <= 10 *
      refine sv_asg 14 g (evOr (evCmp (by first | exact (evV 2 rfl).h | exact (esO 2 rfl).h) (EV.h evI) cv_gt) fun hb => (evOr (evCmp (EV.h (evLen (by first | exact (evV 6 rfl).seqT | exact (evV 6 rfl).seq | exact esO 6 rfl | exact EV.seqQ (evV 6 rfl)) T.b_len)) (EV.h evI) cv_gt) fun hb => (evOr (evV 7 rfl) fun hb => (evOne (evNot (evChain (EV.h evI) (by first | exact (evV 8 rfl).h | exact (esO 8 rfl).h) (EV.h (evBin evI evI (by walk_at "Tp.pow"))) cv_le cv_le)))))) ?_
      -- _law_request = (0, 2, _law_amount, _law_hops)
      have hF : (∀ w ∈ ws, TlOk w.t) ∧ (∀ w ∈ ws, w.mo ≤ 1000000000000000) ∧ ws.length ≤ 1000 ∧ L.length ≤ 80000 := ⟨fun w hw => by rw [(hwo w hw).1]; exact ⟨by decide, by decide, by decide⟩, fun w hw => by rw [(hwo w hw).2]; decide, by omega, by omega⟩
      have hwk : ∀ w ∈ ws, WyOk w := fun w hw => by refine ⟨?_, ?_⟩ <;> rw [(hwo w hw).1] <;> decide
      have hW : (decide (60 < m) || (decide (60 < ((lms L).length : Int)) || (db || !(decide (1 ≤ a) && decide (a ≤ 1000000000000000))))) = true ↔ ¬ rowsOk ws.length L a := wr_is db hwl hM.1 hdU
      generalize (decide (60 < m) || (decide (60 < ((lms L).length : Int)) || (db || !(decide (1 ≤ a) && decide (a ≤ 1000000000000000))))) = wr at hW ⊢
      refine sv_asg 15 g (evTup (eaC evI (eaC evI (eaC (evV 8 rfl) (eaC (evV 9 rfl) eaN))))) ?_
      -- _law_due = 0
      refine sv_asg 16 g evI ?_
      -- if _law_wrong or not 1 <= _law_hops <= 12:
      refine sv_ifI 16 g (EW.t (ewOr (by first | exact etV (evV 14 rfl) | exact etL (by first | exact (evV 14 rfl).seqT | exact (evV 14 rfl).seq | exact esO 14 rfl | exact EV.seqQ (evV 14 rfl)) | exact etI (evV 14 rfl)) fun hb => (ewOr1 (etNot (etChain (EV.h evI) (by first | exact (evV 9 rfl).h | exact (esO 9 rfl).h) (EV.h evI) cv_le cv_le))))) rfl (fun h229 => evI) ?_
      -- if _law_found(list(_law_ways), list(_law_limits), _law_request) != _law_due:
      have hd := due_1 (hops := hops) hW
      generalize (if (wr || !(decide (1 ≤ hops) && decide (hops ≤ 12))) = true then (1 : Int) else 0) = d1 at hd ⊢
      refine sv_ifF (etCmp (EV.h (EC.ev (ecCall g C__law_found (by decide) (eaC (evList (by first | exact (evV 4 rfl).seqT | exact (evV 4 rfl).seq | exact esO 4 rfl | exact EV.seqQ (evV 4 rfl)) T.b_list) (eaC (evList (by first | exact (evV 6 rfl).seqT | exact (evV 6 rfl).seq | exact esO 6 rfl | exact EV.seqQ (evV 6 rfl)) T.b_list) (eaC (evV 15 rfl) eaN))) ⟨ws, L, 0, 2, a, hops, rfl, hF, fun z => congrArg (fun x : Int => Rs.da (.int x)) (hd.1 z).symm, fun z => congrArg (fun x : Int => Rs.da (.int x)) (hd.2 z).symm⟩))) (by first | exact (evV 16 rfl).h | exact (esO 16 rfl).h) (by walk_at "Tp.ne")) ?_ (by simp)
      refine sv_nil ?_
      show SV _ _ _ _ _ _
      -- if _law_short == 1 or not 1 <= _law_attempts <= 40:
      show SV _ _ _ _ _ _
      refine sv_ifI 16 g (EW.t (ewOr (etCmp (by first | exact (evV 11 rfl).h | exact (esO 11 rfl).h) (EV.h evI) (by walk_at "Tp.eq")) fun hb => (ewOr1 (etNot (etChain (EV.h evI) (by first | exact (evV 10 rfl).h | exact (esO 10 rfl).h) (EV.h evI) cv_le cv_le))))) rfl (fun h233 => evI) ?_
      -- if _law_tried(list(_law_ways), list(_law_money), list(_law_limits), _law_request, _law_attempts) != 
      rw [hsh]
      have hd2 := due_2 (n := n) hd hbs
      generalize (if (sh || !(decide (1 ≤ n) && decide (n ≤ 40))) = true then (1 : Int) else d1) = d2 at hd2 ⊢
      refine sv_ifF (etCmp (EV.h (EC.ev (ecCall g C__law_tried (by decide) (eaC (evList (by first | exact (evV 4 rfl).seqT | exact (evV 4 rfl).seq | exact esO 4 rfl | exact EV.seqQ (evV 4 rfl)) T.b_list) (eaC (evList (by first | exact (evV 12 rfl).seqT | exact (evV 12 rfl).seq | exact esO 12 rfl | exact EV.seqQ (evV 12 rfl)) T.b_list) (eaC (evList (by first | exact (evV 6 rfl).seqT | exact (evV 6 rfl).seq | exact esO 6 rfl | exact EV.seqQ (evV 6 rfl)) T.b_list) (eaC (evV 15 rfl) (eaC (evV 10 rfl) eaN))))) ⟨ws, bs, L, 0, 2, a, hops, n, rfl, hF, fun z => congrArg (fun x : Int => Rs.da (.int x)) (hd2.1 z).symm, fun z => congrArg (fun x : Int => Rs.da (.int x)) (hd2.2 z).symm⟩))) (by first | exact (evV 16 rfl).h | exact (esO 16 rfl).h) (by walk_at "Tp.ne")) ?_ (by simp)
      refine sv_nil ?_
      show SV _ _ _ _ _ _
      -- _law_due = 0
      refine sv_asg 16 g evI ?_
      refine sv_seqN 1 (fun r' => ∃ d3 : Int, ((rowsOk ws.length L a → (∀ x ∈ ldR a ws.reverse, x ≤ 1000000000000000) → d3 = 0) ∧ (¬ rowsOk ws.length L a → d3 = 1) ∧ (rowsOk ws.length L a → ¬ (∀ x ∈ ldR a ws.reverse, x ≤ 1000000000000000) → d3 = 2)) ∧ r' = [.im (.list (ns.map PyData.int)), .im (.int (num ns 0)), .im (.int m), .im (.int q), .im (.list (wys ws)), .no, .im (.list (lms L)), .im (.bool db), .im (.int a), .im (.int hops), .im (.int n), .im (.int short), .im (.list (itD bs)), .no, .im (.bool wr), .im (.tuple [.int 0, .int 2, .int a, .int hops]), .im (.int d3)]) ?_ (fun r' hI => ?_)
      · skip
        -- if _law_wrong:
        refine sv_if (by first | exact etV (evV 14 rfl) | exact etL (by first | exact (evV 14 rfl).seqT | exact (evV 14 rfl).seq | exact esO 14 rfl | exact EV.seqQ (evV 14 rfl)) | exact etI (evV 14 rfl)) (fun h238 => ?_) (fun h238 => ?_)
        · skip
          -- _law_due = 1
          refine sv_asg 16 g evI ?_
          refine sv_nil ?_
          show SV _ _ _ _ _ _
          refine sv_nil ?_
          show ∃ d3 : Int, ((rowsOk ws.length L a → (∀ x ∈ ldR a ws.reverse, x ≤ 1000000000000000) → d3 = 0) ∧ (¬ rowsOk ws.length L a → d3 = 1) ∧ (rowsOk ws.length L a → ¬ (∀ x ∈ ldR a ws.reverse, x ≤ 1000000000000000) → d3 = 2)) ∧ _ = ([.im (.list (ns.map PyData.int)), .im (.int (num ns 0)), .im (.int m), .im (.int q), .im (.list (wys ws)), .no, .im (.list (lms L)), .im (.bool db), .im (.int a), .im (.int hops), .im (.int n), .im (.int short), .im (.list (itD bs)), .no, .im (.bool wr), .im (.tuple [.int 0, .int 2, .int a, .int hops]), .im (.int d3)] : List Sl)
          first
          | exact ⟨1, ⟨fun z => absurd z (hW.mp h238), fun _ => rfl, fun z => absurd z (hW.mp h238)⟩, rfl⟩
          | (have hr : rowsOk ws.length L a := (by by_cases hr : rowsOk ws.length L a; exact hr; exact absurd (hW.mpr hr) (by rw [h238]; decide)); have h3 := due_3 (a := a) hwo hwl hM.1; exact ⟨_, ⟨fun _ z => h3.1 z, fun z => absurd hr z, fun _ z => h3.2 z⟩, rfl⟩)
        · skip
          -- if _law_many > 0 and _law_amount + _law_many - 1 > 10 ** 15:
          refine sv_ifI 16 g (EW.t (ewAnd (etCmp (by first | exact (evV 2 rfl).h | exact (esO 2 rfl).h) (EV.h evI) cv_gt) fun hb => (ewAnd1 (etCmp (EV.h (evBin (evBin (evV 8 rfl) (evV 2 rfl) (by walk_at "Tp.add")) evI ov_sub)) (EV.h (evBin evI evI (by walk_at "Tp.pow"))) cv_gt)))) rfl (fun h240 => evI) ?_
          refine sv_nil ?_
          show SV _ _ _ _ _ _
          refine sv_nil ?_
          show ∃ d3 : Int, ((rowsOk ws.length L a → (∀ x ∈ ldR a ws.reverse, x ≤ 1000000000000000) → d3 = 0) ∧ (¬ rowsOk ws.length L a → d3 = 1) ∧ (rowsOk ws.length L a → ¬ (∀ x ∈ ldR a ws.reverse, x ≤ 1000000000000000) → d3 = 2)) ∧ _ = ([.im (.list (ns.map PyData.int)), .im (.int (num ns 0)), .im (.int m), .im (.int q), .im (.list (wys ws)), .no, .im (.list (lms L)), .im (.bool db), .im (.int a), .im (.int hops), .im (.int n), .im (.int short), .im (.list (itD bs)), .no, .im (.bool wr), .im (.tuple [.int 0, .int 2, .int a, .int hops]), .im (.int d3)] : List Sl)
          first
          | exact ⟨1, ⟨fun z => absurd z (hW.mp h238), fun _ => rfl, fun z => absurd z (hW.mp h238)⟩, rfl⟩
          | (have hr : rowsOk ws.length L a := (by by_cases hr : rowsOk ws.length L a; exact hr; exact absurd (hW.mpr hr) (by rw [h238]; decide)); have h3 := due_3 (a := a) hwo hwl hM.1; exact ⟨_, ⟨fun _ z => h3.1 z, fun z => absurd hr z, fun _ z => h3.2 z⟩, rfl⟩)
      · obtain ⟨d3, hd3, rfl⟩ := hI
        -- return _law_learnt(list(_law_limits), tuple(_law_ways), _law_amount) == _law_due
        refine sv_ret (evCmp (EV.h (EC.ev (ecCall g C__law_learnt (by decide) (eaC (evList (by first | exact (evV 6 rfl).seqT | exact (evV 6 rfl).seq | exact esO 6 rfl | exact EV.seqQ (evV 6 rfl)) T.b_list) (eaC (evTuple (by first | exact (evV 4 rfl).seqT | exact (evV 4 rfl).seq | exact esO 4 rfl | exact EV.seqQ (evV 4 rfl)) T.b_tuple) (eaC (evV 8 rfl) eaN))) ⟨L, ws, a, rfl, ⟨hwk, hF.2.2.1, hF.2.2.2⟩, fun z y => congrArg (fun x : Int => Rs.da (.int x)) (hd3.1 z y).symm, fun z => congrArg (fun x : Int => Rs.da (.int x)) (hd3.2.1 z).symm, fun z y => congrArg (fun x : Int => Rs.da (.int x)) (hd3.2.2 z y).symm⟩))) (by first | exact (evV 16 rfl).h | exact (esO 16 rfl).h) (by walk_at "Tp.eq")) ?_
        show Q _
        rw [decide_eq_true (Eq.refl d3)]
        exact hQ
end
end Tp
namespace Tp
open PySem L2
abbrev d_must_come_in : He.DefD := ⟨("must_come_in", none), "must_come_in", "must_come_in", defArgs s_must_come_in, defBody s_must_come_in, defScope s_must_come_in, [], []⟩
abbrev d_legs : He.DefD := ⟨("legs", none), "legs", "legs", defArgs s_legs, defBody s_legs, defScope s_legs, [], []⟩
abbrev d_limit_of : He.DefD := ⟨("limit_of", none), "limit_of", "limit_of", defArgs s_limit_of, defBody s_limit_of, defScope s_limit_of, [], []⟩
abbrev d_may_carry : He.DefD := ⟨("may_carry", none), "may_carry", "may_carry", defArgs s_may_carry, defBody s_may_carry, defScope s_may_carry, [], []⟩
abbrev d_loads : He.DefD := ⟨("loads", none), "loads", "loads", defArgs s_loads, defBody s_loads, defScope s_loads, [], []⟩
abbrev d_check_rows : He.DefD := ⟨("check_rows", none), "check_rows", "check_rows", defArgs s_check_rows, defBody s_check_rows, defScope s_check_rows, [], []⟩
abbrev d_without : He.DefD := ⟨("without", none), "without", "without", defArgs s_without, defBody s_without, defScope s_without, [], []⟩
abbrev d_carried : He.DefD := ⟨("carried", none), "carried", "carried", defArgs s_carried, defBody s_carried, defScope s_carried, [], []⟩
abbrev d_stopped : He.DefD := ⟨("stopped", none), "stopped", "stopped", defArgs s_stopped, defBody s_stopped, defScope s_stopped, [], []⟩
abbrev d_taught : He.DefD := ⟨("taught", none), "taught", "taught", defArgs s_taught, defBody s_taught, defScope s_taught, [], []⟩
abbrev d_learn : He.DefD := ⟨("learn", none), "learn", "learn", defArgs s_learn, defBody s_learn, defScope s_learn, [], []⟩
abbrev d_check_request : He.DefD := ⟨("check_request", none), "check_request", "check_request", defArgs s_check_request, defBody s_check_request, defScope s_check_request, [], []⟩
abbrev d_best_way : He.DefD := ⟨("best_way", none), "best_way", "best_way", defArgs s_best_way, defBody s_best_way, defScope s_best_way, [], []⟩
abbrev d_next_round : He.DefD := ⟨("next_round", none), "next_round", "next_round", defArgs s_next_round, defBody s_next_round, defScope s_next_round, [], []⟩
abbrev d_cheapest : He.DefD := ⟨("cheapest", none), "cheapest", "cheapest", defArgs s_cheapest, defBody s_cheapest, defScope s_cheapest, [], []⟩
abbrev d_find_route : He.DefD := ⟨("find_route", none), "find_route", "find_route", defArgs s_find_route, defBody s_find_route, defScope s_find_route, [], []⟩
abbrev d_balance_table : He.DefD := ⟨("balance_table", none), "balance_table", "balance_table", defArgs s_balance_table, defBody s_balance_table, defScope s_balance_table, [], []⟩
abbrev d_outcome_of : He.DefD := ⟨("outcome_of", none), "outcome_of", "outcome_of", defArgs s_outcome_of, defBody s_outcome_of, defScope s_outcome_of, [], []⟩
abbrev d_try_routes : He.DefD := ⟨("try_routes", none), "try_routes", "try_routes", defArgs s_try_routes, defBody s_try_routes, defScope s_try_routes, [], []⟩
abbrev d__law_number : He.DefD := ⟨("_law_number", none), "_law_number", "_law_number", defArgs s__law_number, defBody s__law_number, defScope s__law_number, [], []⟩
abbrev d__law_found : He.DefD := ⟨("_law_found", none), "_law_found", "_law_found", defArgs s__law_found, defBody s__law_found, defScope s__law_found, [], []⟩
abbrev d__law_tried : He.DefD := ⟨("_law_tried", none), "_law_tried", "_law_tried", defArgs s__law_tried, defBody s__law_tried, defScope s__law_tried, [], []⟩
abbrev d__law_learnt : He.DefD := ⟨("_law_learnt", none), "_law_learnt", "_law_learnt", defArgs s__law_learnt, defBody s__law_learnt, defScope s__law_learnt, [], []⟩
abbrev d_law : He.DefD := ⟨("law", none), "law", "law", defArgs s_law, defBody s_law, defScope s_law, [], []⟩
def dfs : List He.DefD := [d_must_come_in, d_legs, d_limit_of, d_may_carry, d_loads, d_check_rows, d_without, d_carried, d_stopped, d_taught, d_learn, d_check_request, d_best_way, d_next_round, d_cheapest, d_find_route, d_balance_table, d_outcome_of, d_try_routes, d__law_number, d__law_found, d__law_tried, d__law_learnt, d_law]
def fas : List He.Fa := [.glo "law", .glo "TurnpikeError", .exc "TurnpikeError", .glo "OutOfBounds", .exc "OutOfBounds", .glo "TooMuchMoney", .exc "TooMuchMoney", .free "dict", .free "enumerate", .free "int", .free "isinstance", .free "len", .free "list", .free "max", .free "min", .free "range", .free "reversed", .free "set", .free "tuple", .free "zip", .int "MOST_TOLLS" 20, .int "MOST_AMOUNT" 1000000000000000, .int "MOST_ROWS" 60, .int "MOST_HOPS" 12, .int "MOST" 1000000000000000, .int "MOST_ATTEMPTS" 40, .glo "must_come_in", .glo "legs", .glo "limit_of", .glo "may_carry", .glo "loads", .glo "check_rows", .glo "without", .glo "carried", .glo "stopped", .glo "taught", .glo "learn", .glo "check_request", .glo "best_way", .glo "next_round", .glo "cheapest", .glo "find_route", .glo "balance_table", .glo "outcome_of", .glo "try_routes", .glo "_law_number", .glo "_law_found", .glo "_law_tried", .glo "_law_learnt"]
def tfs : List He.Defn := []
def exB (K : PySem.W.Frag) : Bool := (excB K (He.ga K "TurnpikeError")) && ((excB K (He.ga K "OutOfBounds")) && ((excB K (He.ga K "TooMuchMoney")) && ((subB K (He.ga K "OutOfBounds") (He.ga K "OutOfBounds") true) && ((subB K (He.ga K "OutOfBounds") (He.ga K "TooMuchMoney") false) && ((subB K (He.ga K "OutOfBounds") (He.ga K "TurnpikeError") true) && ((subB K (He.ga K "TooMuchMoney") (He.ga K "OutOfBounds") false) && ((subB K (He.ga K "TooMuchMoney") (He.ga K "TooMuchMoney") true) && ((subB K (He.ga K "TooMuchMoney") (He.ga K "TurnpikeError") true) && (true)))))))))
abbrev hk : PySem.W.Hook := He.hookX 6 fas dfs [] tfs exB
def ob (s : PySem.W.SharedT) : He.AlX := He.obsX 6 fas dfs [] tfs exB (HandSHeadRun.getT s)
theorem ob_eq (s : PySem.W.SharedT) : ob s = hk.obs s.abs := He.obsX_eq (HandSHeadRun.getT_eq s)
def loose : List PySem.Str := (["TurnpikeError", "OutOfBounds", "TooMuchMoney", "MOST_TOLLS", "MOST_AMOUNT", "must_come_in", "legs", "MOST_ROWS", "MOST_HOPS", "MOST", "limit_of", "may_carry", "loads", "check_rows", "without", "carried", "stopped", "taught", "learn", "check_request", "best_way", "next_round", "cheapest", "find_route", "MOST_ATTEMPTS", "balance_table", "outcome_of", "try_routes", "_law_number", "_law_found"] : List PySem.Str) ++ (["_law_tried", "_law_learnt"] : List PySem.Str)
theorem run (w : World) : HandSHeadRun.RunEq (PySem.W.OpenLaw.row PySem.Challenge.rw_turnpike_k25_refused_requests) (PySem.W.view (PySem.W.OpenLaw.row PySem.Challenge.rw_turnpike_k25_refused_requests).prog [39]) hk ob 4000 loose w := by
  intro os
  kernel_rfl
theorem all4 {w : World} {K : PySem.W.Frag} {h : Heap} {mg : Str → Option Value} {fa : Addr} (X : K.In h) (G : h.Ns mainGlobals mg) (hfa : mg "law" = some (.ref fa)) (c : He.SaysX fas dfs [] tfs exB w h K) : LamX.LawAtS PySem.Challenge.rw_turnpike_k25_refused_requests w K (L2.CX PySem.Challenge.rw_turnpike_k25_refused_requests.prog w) 8 63 "_law_script" mg fa h := by
  have e := hfa.symm.trans (He.glo_ok X G (c.t.d.fact 0 (f := .glo "law") rfl))
  cases e
  have m0 : exB K = true := c.more
  obtain ⟨e0, m1⟩ := He.ba m0
  obtain ⟨e1, m2⟩ := He.ba m1
  obtain ⟨e2, m3⟩ := He.ba m2
  obtain ⟨e3, m4⟩ := He.ba m3
  obtain ⟨e4, m5⟩ := He.ba m4
  obtain ⟨e5, m6⟩ := He.ba m5
  obtain ⟨e6, m7⟩ := He.ba m6
  obtain ⟨e7, m8⟩ := He.ba m7
  obtain ⟨e8, m9⟩ := He.ba m8
  obtain ⟨fd0, D0⟩ := c.t.d.def_ 0 (d := d_must_come_in) rfl
  have D0 : FunD K "must_come_in" "must_come_in" (defArgs s_must_come_in) (defBody s_must_come_in) (defScope s_must_come_in) [] [] (He.ga K "must_come_in") fd0 := D0
  have F0 : Fun K "must_come_in" "must_come_in" s_must_come_in (He.ga K "must_come_in") fd0 := fun_D D0
  obtain ⟨fd1, D1⟩ := c.t.d.def_ 1 (d := d_legs) rfl
  have D1 : FunD K "legs" "legs" (defArgs s_legs) (defBody s_legs) (defScope s_legs) [] [] (He.ga K "legs") fd1 := D1
  have F1 : Fun K "legs" "legs" s_legs (He.ga K "legs") fd1 := fun_D D1
  obtain ⟨fd2, D2⟩ := c.t.d.def_ 2 (d := d_limit_of) rfl
  have D2 : FunD K "limit_of" "limit_of" (defArgs s_limit_of) (defBody s_limit_of) (defScope s_limit_of) [] [] (He.ga K "limit_of") fd2 := D2
  have F2 : Fun K "limit_of" "limit_of" s_limit_of (He.ga K "limit_of") fd2 := fun_D D2
  obtain ⟨fd3, D3⟩ := c.t.d.def_ 3 (d := d_may_carry) rfl
  have D3 : FunD K "may_carry" "may_carry" (defArgs s_may_carry) (defBody s_may_carry) (defScope s_may_carry) [] [] (He.ga K "may_carry") fd3 := D3
  have F3 : Fun K "may_carry" "may_carry" s_may_carry (He.ga K "may_carry") fd3 := fun_D D3
  obtain ⟨fd4, D4⟩ := c.t.d.def_ 4 (d := d_loads) rfl
  have D4 : FunD K "loads" "loads" (defArgs s_loads) (defBody s_loads) (defScope s_loads) [] [] (He.ga K "loads") fd4 := D4
  have F4 : Fun K "loads" "loads" s_loads (He.ga K "loads") fd4 := fun_D D4
  obtain ⟨fd5, D5⟩ := c.t.d.def_ 5 (d := d_check_rows) rfl
  have D5 : FunD K "check_rows" "check_rows" (defArgs s_check_rows) (defBody s_check_rows) (defScope s_check_rows) [] [] (He.ga K "check_rows") fd5 := D5
  have F5 : Fun K "check_rows" "check_rows" s_check_rows (He.ga K "check_rows") fd5 := fun_D D5
  obtain ⟨fd6, D6⟩ := c.t.d.def_ 6 (d := d_without) rfl
  have D6 : FunD K "without" "without" (defArgs s_without) (defBody s_without) (defScope s_without) [] [] (He.ga K "without") fd6 := D6
  have F6 : Fun K "without" "without" s_without (He.ga K "without") fd6 := fun_D D6
  obtain ⟨fd7, D7⟩ := c.t.d.def_ 7 (d := d_carried) rfl
  have D7 : FunD K "carried" "carried" (defArgs s_carried) (defBody s_carried) (defScope s_carried) [] [] (He.ga K "carried") fd7 := D7
  have F7 : Fun K "carried" "carried" s_carried (He.ga K "carried") fd7 := fun_D D7
  obtain ⟨fd8, D8⟩ := c.t.d.def_ 8 (d := d_stopped) rfl
  have D8 : FunD K "stopped" "stopped" (defArgs s_stopped) (defBody s_stopped) (defScope s_stopped) [] [] (He.ga K "stopped") fd8 := D8
  have F8 : Fun K "stopped" "stopped" s_stopped (He.ga K "stopped") fd8 := fun_D D8
  obtain ⟨fd9, D9⟩ := c.t.d.def_ 9 (d := d_taught) rfl
  have D9 : FunD K "taught" "taught" (defArgs s_taught) (defBody s_taught) (defScope s_taught) [] [] (He.ga K "taught") fd9 := D9
  have F9 : Fun K "taught" "taught" s_taught (He.ga K "taught") fd9 := fun_D D9
  obtain ⟨fd10, D10⟩ := c.t.d.def_ 10 (d := d_learn) rfl
  have D10 : FunD K "learn" "learn" (defArgs s_learn) (defBody s_learn) (defScope s_learn) [] [] (He.ga K "learn") fd10 := D10
  have F10 : Fun K "learn" "learn" s_learn (He.ga K "learn") fd10 := fun_D D10
  obtain ⟨fd11, D11⟩ := c.t.d.def_ 11 (d := d_check_request) rfl
  have D11 : FunD K "check_request" "check_request" (defArgs s_check_request) (defBody s_check_request) (defScope s_check_request) [] [] (He.ga K "check_request") fd11 := D11
  have F11 : Fun K "check_request" "check_request" s_check_request (He.ga K "check_request") fd11 := fun_D D11
  obtain ⟨fd12, D12⟩ := c.t.d.def_ 12 (d := d_best_way) rfl
  have D12 : FunD K "best_way" "best_way" (defArgs s_best_way) (defBody s_best_way) (defScope s_best_way) [] [] (He.ga K "best_way") fd12 := D12
  have F12 : Fun K "best_way" "best_way" s_best_way (He.ga K "best_way") fd12 := fun_D D12
  obtain ⟨fd13, D13⟩ := c.t.d.def_ 13 (d := d_next_round) rfl
  have D13 : FunD K "next_round" "next_round" (defArgs s_next_round) (defBody s_next_round) (defScope s_next_round) [] [] (He.ga K "next_round") fd13 := D13
  have F13 : Fun K "next_round" "next_round" s_next_round (He.ga K "next_round") fd13 := fun_D D13
  obtain ⟨fd14, D14⟩ := c.t.d.def_ 14 (d := d_cheapest) rfl
  have D14 : FunD K "cheapest" "cheapest" (defArgs s_cheapest) (defBody s_cheapest) (defScope s_cheapest) [] [] (He.ga K "cheapest") fd14 := D14
  have F14 : Fun K "cheapest" "cheapest" s_cheapest (He.ga K "cheapest") fd14 := fun_D D14
  obtain ⟨fd15, D15⟩ := c.t.d.def_ 15 (d := d_find_route) rfl
  have D15 : FunD K "find_route" "find_route" (defArgs s_find_route) (defBody s_find_route) (defScope s_find_route) [] [] (He.ga K "find_route") fd15 := D15
  have F15 : Fun K "find_route" "find_route" s_find_route (He.ga K "find_route") fd15 := fun_D D15
  obtain ⟨fd16, D16⟩ := c.t.d.def_ 16 (d := d_balance_table) rfl
  have D16 : FunD K "balance_table" "balance_table" (defArgs s_balance_table) (defBody s_balance_table) (defScope s_balance_table) [] [] (He.ga K "balance_table") fd16 := D16
  have F16 : Fun K "balance_table" "balance_table" s_balance_table (He.ga K "balance_table") fd16 := fun_D D16
  obtain ⟨fd17, D17⟩ := c.t.d.def_ 17 (d := d_outcome_of) rfl
  have D17 : FunD K "outcome_of" "outcome_of" (defArgs s_outcome_of) (defBody s_outcome_of) (defScope s_outcome_of) [] [] (He.ga K "outcome_of") fd17 := D17
  have F17 : Fun K "outcome_of" "outcome_of" s_outcome_of (He.ga K "outcome_of") fd17 := fun_D D17
  obtain ⟨fd18, D18⟩ := c.t.d.def_ 18 (d := d_try_routes) rfl
  have D18 : FunD K "try_routes" "try_routes" (defArgs s_try_routes) (defBody s_try_routes) (defScope s_try_routes) [] [] (He.ga K "try_routes") fd18 := D18
  have F18 : Fun K "try_routes" "try_routes" s_try_routes (He.ga K "try_routes") fd18 := fun_D D18
  obtain ⟨fd19, D19⟩ := c.t.d.def_ 19 (d := d__law_number) rfl
  have D19 : FunD K "_law_number" "_law_number" (defArgs s__law_number) (defBody s__law_number) (defScope s__law_number) [] [] (He.ga K "_law_number") fd19 := D19
  have F19 : Fun K "_law_number" "_law_number" s__law_number (He.ga K "_law_number") fd19 := fun_D D19
  obtain ⟨fd20, D20⟩ := c.t.d.def_ 20 (d := d__law_found) rfl
  have D20 : FunD K "_law_found" "_law_found" (defArgs s__law_found) (defBody s__law_found) (defScope s__law_found) [] [] (He.ga K "_law_found") fd20 := D20
  have F20 : Fun K "_law_found" "_law_found" s__law_found (He.ga K "_law_found") fd20 := fun_D D20
  obtain ⟨fd21, D21⟩ := c.t.d.def_ 21 (d := d__law_tried) rfl
  have D21 : FunD K "_law_tried" "_law_tried" (defArgs s__law_tried) (defBody s__law_tried) (defScope s__law_tried) [] [] (He.ga K "_law_tried") fd21 := D21
  have F21 : Fun K "_law_tried" "_law_tried" s__law_tried (He.ga K "_law_tried") fd21 := fun_D D21
  obtain ⟨fd22, D22⟩ := c.t.d.def_ 22 (d := d__law_learnt) rfl
  have D22 : FunD K "_law_learnt" "_law_learnt" (defArgs s__law_learnt) (defBody s__law_learnt) (defScope s__law_learnt) [] [] (He.ga K "_law_learnt") fd22 := D22
  have F22 : Fun K "_law_learnt" "_law_learnt" s__law_learnt (He.ga K "_law_learnt") fd22 := fun_D D22
  obtain ⟨fd23, D23⟩ := c.t.d.def_ 23 (d := d_law) rfl
  have D23 : FunD K "law" "law" (defArgs s_law) (defBody s_law) (defScope s_law) [] [] (He.ga K "law") fd23 := D23
  have F23 : Fun K "law" "law" s_law (He.ga K "law") fd23 := fun_D D23
  let xs : Xs := ⟨He.ga K "TurnpikeError", He.ga K "OutOfBounds", He.ga K "TooMuchMoney"⟩
  have T : Txt K mg xs := ⟨xct_ok X G (c.t.d.fact 1 (f := .glo "TurnpikeError") rfl) (c.t.d.fact 2 (f := .exc "TurnpikeError") rfl) e0, xct_ok X G (c.t.d.fact 3 (f := .glo "OutOfBounds") rfl) (c.t.d.fact 4 (f := .exc "OutOfBounds") rfl) e1, xct_ok X G (c.t.d.fact 5 (f := .glo "TooMuchMoney") rfl) (c.t.d.fact 6 (f := .exc "TooMuchMoney") rfl) e2, of_decide_eq_true e3, of_decide_eq_true e4, of_decide_eq_true e5, of_decide_eq_true e6, of_decide_eq_true e7, of_decide_eq_true e8, He.free_ok X G (c.t.d.fact 7 (f := .free "dict") rfl), He.free_ok X G (c.t.d.fact 8 (f := .free "enumerate") rfl), He.free_ok X G (c.t.d.fact 9 (f := .free "int") rfl), He.free_ok X G (c.t.d.fact 10 (f := .free "isinstance") rfl), He.free_ok X G (c.t.d.fact 11 (f := .free "len") rfl), He.free_ok X G (c.t.d.fact 12 (f := .free "list") rfl), He.free_ok X G (c.t.d.fact 13 (f := .free "max") rfl), He.free_ok X G (c.t.d.fact 14 (f := .free "min") rfl), He.free_ok X G (c.t.d.fact 15 (f := .free "range") rfl), He.free_ok X G (c.t.d.fact 16 (f := .free "reversed") rfl), He.free_ok X G (c.t.d.fact 17 (f := .free "set") rfl), He.free_ok X G (c.t.d.fact 18 (f := .free "tuple") rfl), He.free_ok X G (c.t.d.fact 19 (f := .free "zip") rfl), He.int_ok X G (c.t.d.fact 20 (f := .int "MOST_TOLLS" 20) rfl), He.int_ok X G (c.t.d.fact 21 (f := .int "MOST_AMOUNT" 1000000000000000) rfl), He.int_ok X G (c.t.d.fact 22 (f := .int "MOST_ROWS" 60) rfl), He.int_ok X G (c.t.d.fact 23 (f := .int "MOST_HOPS" 12) rfl), He.int_ok X G (c.t.d.fact 24 (f := .int "MOST" 1000000000000000) rfl), He.int_ok X G (c.t.d.fact 25 (f := .int "MOST_ATTEMPTS" 40) rfl)⟩
  refine law_at (cs := tfs.map (He.cT K)) X (fun p hp => by obtain ⟨z, hz, e⟩ := List.mem_map.mp hp; subst e; exact c.empty z hz) (fun p hp => by obtain ⟨z, hz, e⟩ := List.mem_map.mp hp; subst e; exact c.out z hz) (fun p hp => by obtain ⟨z, hz, e⟩ := List.mem_map.mp hp; subst e; exact c.hd z hz) (fun s v => FunD.bindsA (ps := ["_law_script"]) D23 (fun _ _ _ _ _ _ us hl => match us, hl with | [_], _ => rfl) s [v] rfl) (c := c_law xs) (fun ns hl => ⟨ns, rfl, hl, rfl⟩) fun base B1 B2 TB => ?_
  have C_must_come_in : Cal PySem.Challenge.rw_turnpike_k25_refused_requests.prog w [] K mg base "must_come_in" 1 (c_must_come_in xs) := ⟨_, _, _, ok_must_come_in F0 T, He.glo_ok X G (c.t.d.fact 26 (f := .glo "must_come_in") rfl), D0.kp, F0.binds (ps := ["toll", "amount"]) fun _ _ _ _ _ _ us hl => match us, hl with | [_, _], _ => rfl⟩
  have C_legs : Cal PySem.Challenge.rw_turnpike_k25_refused_requests.prog w [] K mg base "legs" 2 (c_legs xs) := ⟨_, _, _, ok_legs F1 T C_must_come_in, He.glo_ok X G (c.t.d.fact 27 (f := .glo "legs") rfl), D1.kp, F1.binds (ps := ["amount", "deadline", "tolls"]) fun _ _ _ _ _ _ us hl => match us, hl with | [_, _, _], _ => rfl⟩
  have C_limit_of : Cal PySem.Challenge.rw_turnpike_k25_refused_requests.prog w [] K mg base "limit_of" 1 (c_limit_of xs) := ⟨_, _, _, ok_limit_of F2 T, He.glo_ok X G (c.t.d.fact 28 (f := .glo "limit_of") rfl), D2.kp, F2.binds (ps := ["limits", "channel", "giver"]) fun _ _ _ _ _ _ us hl => match us, hl with | [_, _, _], _ => rfl⟩
  have C_may_carry : Cal PySem.Challenge.rw_turnpike_k25_refused_requests.prog w [] K mg base "may_carry" 2 (c_may_carry xs) := ⟨_, _, _, ok_may_carry F3 T C_limit_of, He.glo_ok X G (c.t.d.fact 29 (f := .glo "may_carry") rfl), D3.kp, F3.binds (ps := ["way", "amount", "limits"]) fun _ _ _ _ _ _ us hl => match us, hl with | [_, _, _], _ => rfl⟩
  have C_loads : Cal PySem.Challenge.rw_turnpike_k25_refused_requests.prog w [] K mg base "loads" 2 (c_loads xs) := ⟨_, _, _, ok_loads F4 T C_must_come_in, He.glo_ok X G (c.t.d.fact 30 (f := .glo "loads") rfl), D4.kp, F4.binds (ps := ["route", "amount"]) fun _ _ _ _ _ _ us hl => match us, hl with | [_, _], _ => rfl⟩
  have C_check_rows : Cal PySem.Challenge.rw_turnpike_k25_refused_requests.prog w [] K mg base "check_rows" 1 (c_check_rows xs) := ⟨_, _, _, ok_check_rows F5 T, He.glo_ok X G (c.t.d.fact 31 (f := .glo "check_rows") rfl), D5.kp, F5.binds (ps := ["ways", "limits", "amount"]) fun _ _ _ _ _ _ us hl => match us, hl with | [_, _, _], _ => rfl⟩
  have C_without : Cal PySem.Challenge.rw_turnpike_k25_refused_requests.prog w [] K mg base "without" 1 (c_without xs) := ⟨_, _, _, ok_without F6 T, He.glo_ok X G (c.t.d.fact 32 (f := .glo "without") rfl), D6.kp, F6.binds (ps := ["limits", "channel", "giver"]) fun _ _ _ _ _ _ us hl => match us, hl with | [_, _, _], _ => rfl⟩
  have C_carried : Cal PySem.Challenge.rw_turnpike_k25_refused_requests.prog w [] K mg base "carried" 2 (c_carried xs) := ⟨_, _, _, ok_carried F7 T C_limit_of C_without, He.glo_ok X G (c.t.d.fact 33 (f := .glo "carried") rfl), D7.kp, F7.binds (ps := ["limits", "way", "load"]) fun _ _ _ _ _ _ us hl => match us, hl with | [_, _, _], _ => rfl⟩
  have C_stopped : Cal PySem.Challenge.rw_turnpike_k25_refused_requests.prog w [] K mg base "stopped" 2 (c_stopped xs) := ⟨_, _, _, ok_stopped F8 T C_limit_of C_without, He.glo_ok X G (c.t.d.fact 34 (f := .glo "stopped") rfl), D8.kp, F8.binds (ps := ["limits", "way", "bound"]) fun _ _ _ _ _ _ us hl => match us, hl with | [_, _, _], _ => rfl⟩
  have C_taught : Cal PySem.Challenge.rw_turnpike_k25_refused_requests.prog w [] K mg base "taught" 3 (c_taught xs) := ⟨_, _, _, ok_taught F9 T C_stopped C_carried, He.glo_ok X G (c.t.d.fact 35 (f := .glo "taught") rfl), D9.kp, F9.binds (ps := ["limits", "route", "rows", "outcome"]) fun _ _ _ _ _ _ us hl => match us, hl with | [_, _, _, _], _ => rfl⟩
  have C_learn : Cal PySem.Challenge.rw_turnpike_k25_refused_requests.prog w [] K mg base "learn" 4 (c_learn xs) := ⟨_, _, _, ok_learn F10 T C_check_rows C_loads C_taught, He.glo_ok X G (c.t.d.fact 36 (f := .glo "learn") rfl), D10.kp, F10.binds (ps := ["limits", "route", "amount", "outcome"]) fun _ _ _ _ _ _ us hl => match us, hl with | [_, _, _, _], _ => rfl⟩
  have C_check_request : Cal PySem.Challenge.rw_turnpike_k25_refused_requests.prog w [] K mg base "check_request" 2 (c_check_request xs) := ⟨_, _, _, ok_check_request F11 T C_check_rows, He.glo_ok X G (c.t.d.fact 37 (f := .glo "check_request") rfl), D11.kp, F11.binds (ps := ["ways", "limits", "request"]) fun _ _ _ _ _ _ us hl => match us, hl with | [_, _, _], _ => rfl⟩
  have C_best_way : Cal PySem.Challenge.rw_turnpike_k25_refused_requests.prog w [] K mg base "best_way" 3 (c_best_way xs) := ⟨_, _, _, ok_best_way F12 T C_may_carry C_must_come_in, He.glo_ok X G (c.t.d.fact 38 (f := .glo "best_way") rfl), D12.kp, F12.binds (ps := ["ways", "limits", "giver", "known"]) fun _ _ _ _ _ _ us hl => match us, hl with | [_, _, _, _], _ => rfl⟩
  have C_next_round : Cal PySem.Challenge.rw_turnpike_k25_refused_requests.prog w [] K mg base "next_round" 4 (c_next_round xs) := ⟨_, _, _, ok_next_round F13 T C_best_way, He.glo_ok X G (c.t.d.fact 39 (f := .glo "next_round") rfl), D13.kp, F13.binds (ps := ["ways", "limits", "source", "known"]) fun _ _ _ _ _ _ us hl => match us, hl with | [_, _, _, _], _ => rfl⟩
  have C_cheapest : Cal PySem.Challenge.rw_turnpike_k25_refused_requests.prog w [] K mg base "cheapest" 5 (c_cheapest xs) := ⟨_, _, _, ok_cheapest F14 T C_next_round C_may_carry, He.glo_ok X G (c.t.d.fact 40 (f := .glo "cheapest") rfl), D14.kp, F14.binds (ps := ["ways", "limits", "request"]) fun _ _ _ _ _ _ us hl => match us, hl with | [_, _, _], _ => rfl⟩
  have C_find_route : Cal PySem.Challenge.rw_turnpike_k25_refused_requests.prog w [] K mg base "find_route" 6 (c_find_route xs) := ⟨_, _, _, ok_find_route F15 T C_check_request C_cheapest C_legs C_loads, He.glo_ok X G (c.t.d.fact 41 (f := .glo "find_route") rfl), D15.kp, F15.binds (ps := ["ways", "limits", "request", "deadline"]) fun _ _ _ _ _ _ us hl => match us, hl with | [_, _, _, _], _ => rfl⟩
  have C_balance_table : Cal PySem.Challenge.rw_turnpike_k25_refused_requests.prog w [] K mg base "balance_table" 1 (c_balance_table xs) := ⟨_, _, _, ok_balance_table F16 T, He.glo_ok X G (c.t.d.fact 42 (f := .glo "balance_table") rfl), D16.kp, F16.binds (ps := ["ways", "balances"]) fun _ _ _ _ _ _ us hl => match us, hl with | [_, _], _ => rfl⟩
  have C_outcome_of : Cal PySem.Challenge.rw_turnpike_k25_refused_requests.prog w [] K mg base "outcome_of" 1 (c_outcome_of xs) := ⟨_, _, _, ok_outcome_of F17 T, He.glo_ok X G (c.t.d.fact 43 (f := .glo "outcome_of") rfl), D17.kp, F17.binds (ps := ["route", "rows", "table"]) fun _ _ _ _ _ _ us hl => match us, hl with | [_, _, _], _ => rfl⟩
  obtain ⟨_, _, _, kV18_0, _, _, _, _, _, _, q18_0, _, _, hD18_0, _⟩ := D18.ex
  have hD18_0 := dfl_none hD18_0
  have N_try_routes_0 : CalN PySem.Challenge.rw_turnpike_k25_refused_requests.prog w [] K mg base "try_routes" 6 (c_try_routes xs) 4 ["attempts"] [] := ⟨_, _, _, _, _, ok_try_routes F18 T C_check_request C_balance_table C_cheapest C_loads C_outcome_of C_taught, He.glo_ok X G (c.t.d.fact 44 (f := .glo "try_routes") rfl), D18.kp, (by subst q18_0 hD18_0; exact kbn_plain (fun s us ws h1 h2 => match us, ws, h1, h2 with | [_, _, _, _], [_], _, _ => .of_eq rfl)), .nil⟩
  have C__law_number : Cal PySem.Challenge.rw_turnpike_k25_refused_requests.prog w [] K mg base "_law_number" 1 (c__law_number xs) := ⟨_, _, _, ok__law_number F19 T, He.glo_ok X G (c.t.d.fact 45 (f := .glo "_law_number") rfl), D19.kp, F19.binds (ps := ["_law_script", "_law_k"]) fun _ _ _ _ _ _ us hl => match us, hl with | [_, _], _ => rfl⟩
  have C__law_found : Cal PySem.Challenge.rw_turnpike_k25_refused_requests.prog w [] K mg base "_law_found" 7 (c__law_found xs) := ⟨_, _, _, ok__law_found F20 T C_find_route, He.glo_ok X G (c.t.d.fact 46 (f := .glo "_law_found") rfl), D20.kp, F20.binds (ps := ["_law_ways", "_law_limits", "_law_request"]) fun _ _ _ _ _ _ us hl => match us, hl with | [_, _, _], _ => rfl⟩
  have C__law_tried : Cal PySem.Challenge.rw_turnpike_k25_refused_requests.prog w [] K mg base "_law_tried" 7 (c__law_tried xs) := ⟨_, _, _, ok__law_tried F21 T N_try_routes_0, He.glo_ok X G (c.t.d.fact 47 (f := .glo "_law_tried") rfl), D21.kp, F21.binds (ps := ["_law_ways", "_law_balances", "_law_limits", "_law_request", "_law_attempts"]) fun _ _ _ _ _ _ us hl => match us, hl with | [_, _, _, _, _], _ => rfl⟩
  have C__law_learnt : Cal PySem.Challenge.rw_turnpike_k25_refused_requests.prog w [] K mg base "_law_learnt" 5 (c__law_learnt xs) := ⟨_, _, _, ok__law_learnt F22 T C_learn, He.glo_ok X G (c.t.d.fact 48 (f := .glo "_law_learnt") rfl), D22.kp, F22.binds (ps := ["_law_limits", "_law_route", "_law_amount"]) fun _ _ _ _ _ _ us hl => match us, hl with | [_, _, _], _ => rfl⟩
  have Z := ok_law (xs := xs) (P := PySem.Challenge.rw_turnpike_k25_refused_requests.prog) (w := w) (base := base) F23 T C__law_number C__law_found C__law_tried C__law_learnt
  exact Z
end Tp
open PySem PySem.W PySem.Calls PyProof.Rows
set_option maxRecDepth 100000 in
set_option maxHeartbeats 0 in
theorem PySem.Challenge.cw_turnpike_k25_refused_requests_holds : PySem.Challenge.rw_turnpike_k25_refused_requests.Holds := by
  w_on; o_law
  refine HandSHeadRun.head_any (r := OpenLaw.row PySem.Challenge.rw_turnpike_k25_refused_requests) (q := view (OpenLaw.row PySem.Challenge.rw_turnpike_k25_refused_requests).prog [39]) (H := Tp.hk) (ob := Tp.ob) (M := 4000) (loose := Tp.loose) (d := HandSHeadRun.topDef (OpenLaw.row PySem.Challenge.rw_turnpike_k25_refused_requests).prog 39) (kwd := []) Tp.ob_eq
    (by kernel_rfl) (fun s => by kernel_rfl) Tp.run (by kernel_rfl) (by kernel_rfl) (by kernel_rfl) (by rfl) (by first | assumption | decide +kernel) (by decide +kernel) ⟨rfl, rfl, rfl, rfl, rfl, by decide +kernel⟩ ?hw ?hc
  case hw => w_witness2
  case hc =>
    refine LamX.walk_ofTsE (l := PySem.Challenge.rw_turnpike_k25_refused_requests) (n := 63) (k := 8) (x := "_law_script") (CX := fun w => L2.CX PySem.Challenge.rw_turnpike_k25_refused_requests.prog w) rfl (by decide) (by kernel_rfl) ⟨rfl, by decide, by decide⟩ ?F (fun w H s e s' z => by obtain ⟨_, _, _, _, _, _, _, _, _, _, _, _, z⟩ := z; exact z)
    intro w mg fa h Y G hmg0
    obtain ⟨K, KX, c⟩ := Y
    have hmg : mg ("law" : PySem.Str) = some (.ref fa) := by
      have e : (HandSHeadRun.topDef (OpenLaw.row PySem.Challenge.rw_turnpike_k25_refused_requests).prog 39).name = ("law" : PySem.Str) := by kernel_rfl
      rw [← e]
      exact hmg0
    exact ⟨K, KX, Tp.all4 KX G hmg c⟩
