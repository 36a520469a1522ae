import PyProof.Rows.All
import Wide.All
import OpenK.AllK
import Wide.FinOn
import HandS.ForMost
import HandS.TupAny
import HandS.Deep
import HandS.Flow
import HandS.AnyAll
import HandS.Style
import HandS.IsInst
import HandS.Zip
import HandS.Rev
import KE.GoesMore
import KE.GoesEnum
import HandS.GenOver
import HandS.GenList
import PyProof.TupleOfGen
import HandS.JoinGen
import HandS.EndTab
import PyProof.TupleOfStr
import HandS.SortInts
import HandS.Conv
import HandS.Iter
import HandS.Text
import KE.DataMinMax
import KE.SortData
import HandS.SortKw
import HandS.TupMul
import PyProof.StrBlock2
import KE.KTupSum
import PySem.Challenge.RW_pagehouse_k48_tops_that_are_held
set_option Elab.async false
set_option maxRecDepth 100000
set_option linter.all false
set_option pp.maxSteps 500
set_option pp.deepTerms true
/-! The D-layer: values with their tuples inlined (D), partial heaps (DH), readings by values. -/
namespace DL
open PySem PySem.Spec PyProof.Rows L2

/-! ### data -/
inductive D where
  | non | bl (b : Bool) | int (i : Int) | str (x : Str) | tup (ds : List D) | ref (a : Addr)
  /-- the script: a list of ints that nobody writes -/
  | scr (ns : List Int)
  /-- a built-in class -/
  | ty (n : String)

/-- a list that stays as it is -/
def FrzL (K : PySem.W.Frag) (H : Hp) (a : Addr) (xs : List V) : Prop :=
  (∃ o, H a = some (.frz o (.lst xs))) ∨
    ∃ (o : Obj) (its : Array Value) (n : Nat), K.lookup a = some o ∧ o.cls = .type "list" ∧ o.dict = none ∧ o.data = .seq its n ∧ its.size ≤ sizeLine ∧ Vals xs its.toList
theorem FrzL.sq {K : PySem.W.Frag} {H : Hp} {a : Addr} {xs : List V} (h : FrzL K H a xs) : SqL K H a xs := by
  rcases h with ⟨o, h⟩ | h
  · exact .inl (.inr ⟨o, h⟩)
  · exact .inr h
mutual
inductive Rep (K : PySem.W.Frag) (H : Hp) : D → V → Prop
  | non : Rep K H .non .non
  | bl (b : Bool) : Rep K H (.bl b) (.bl b)
  | int (i : Int) : Rep K H (.int i) (.int i)
  | str (x : Str) : Rep K H (.str x) (.str x)
  | ref (a : Addr) : Rep K H (.ref a) (.ref a)
  | tup {a : Addr} {vs : List V} {ds : List D} : SqT K H a vs → Reps K H ds vs → Rep K H (.tup ds) (.ref a)
  | scr {a : Addr} {ns : List Int} : FrzL K H a (ns.map V.int) → Rep K H (.scr ns) (.ref a)
  | ty (n : String) : Rep K H (.ty n) (.ty n)
inductive Reps (K : PySem.W.Frag) (H : Hp) : List D → List V → Prop
  | nil : Reps K H [] []
  | cons {d : D} {v : V} {ds : List D} {vs : List V} : Rep K H d v → Reps K H ds vs → Reps K H (d :: ds) (v :: vs)
end

/-- tuples and frozen things stay -/
structure Ext (H H' : Hp) : Prop where
  tup : ∀ a xs, H a = some (.tup xs) → H' a = some (.tup xs)
  frz : ∀ a o u, H a = some (.frz o u) → H' a = some (.frz o u)
theorem Ext.refl (H : Hp) : Ext H H := ⟨fun _ _ h => h, fun _ _ _ h => h⟩
theorem Ext.trans {H H1 H2 : Hp} (a : Ext H H1) (b : Ext H1 H2) : Ext H H2 :=
  ⟨fun c xs h => b.tup c xs (a.tup c xs h), fun c o u h => b.frz c o u (a.frz c o u h)⟩
theorem Ext.same {H H' : Hp} (s : Same H H') : Ext H H' := ⟨fun a xs h => s a _ h, fun a o u h => s a _ h⟩
theorem Same.new {H : Hp} {p : Addr} {o : HO} (n : H p = none) : Same H (upd H p o) := fun b u h => by
  rw [upd_ne (ne_of_none h n)]; exact h
theorem Ext.new {H : Hp} {p : Addr} {o : HO} (n : H p = none) : Ext H (upd H p o) := .same (Same.new n)
theorem Ext.lst {H : Hp} {p : Addr} {xs : List V} {o : HO} (n : H p = some (.lst xs)) : Ext H (upd H p o) :=
  ⟨fun a ys h => by rw [upd_ne (ne_of h n (by intro z; cases z))]; exact h, fun a ob u h => by rw [upd_ne (ne_of h n (by intro z; cases z))]; exact h⟩
theorem Ext.dic {H : Hp} {p : Addr} {kvs : List (L2.Key × V)} {o : HO} (n : H p = some (.dK kvs)) : Ext H (upd H p o) :=
  ⟨fun a ys h => by rw [upd_ne (ne_of h n (by intro z; cases z))]; exact h, fun a ob u h => by rw [upd_ne (ne_of h n (by intro z; cases z))]; exact h⟩
theorem Ext.ins {H : Hp} {p C dx : Addr} {fs : List (Str × V)} {o : HO} (n : H p = some (.ins C dx fs)) : Ext H (upd H p o) :=
  ⟨fun a ys h => by rw [upd_ne (ne_of h n (by intro z; cases z))]; exact h, fun a ob u h => by rw [upd_ne (ne_of h n (by intro z; cases z))]; exact h⟩
theorem sqT_ext {K : PySem.W.Frag} {H H' : Hp} {a : Addr} {vs : List V} (e : Ext H H') (h : SqT K H a vs) : SqT K H' a vs := by
  rcases h with (h | ⟨o, h⟩) | h
  · exact .inl (.inl (e.tup _ _ h))
  · exact .inl (.inr ⟨o, e.frz _ _ _ h⟩)
  · exact .inr h
theorem frzL_ext {K : PySem.W.Frag} {H H' : Hp} {a : Addr} {vs : List V} (e : Ext H H') (h : FrzL K H a vs) : FrzL K H' a vs := by
  rcases h with ⟨o, h⟩ | h
  · exact .inl ⟨o, e.frz _ _ _ h⟩
  · exact .inr h
mutual
theorem Rep.ext {K : PySem.W.Frag} {H H' : Hp} (e : Ext H H') : ∀ {d : D} {v : V}, Rep K H d v → Rep K H' d v
  | _, _, .non => .non
  | _, _, .bl b => .bl b
  | _, _, .int i => .int i
  | _, _, .str x => .str x
  | _, _, .ref a => .ref a
  | _, _, .tup h r => .tup (sqT_ext e h) (Reps.ext e r)
  | _, _, .scr h => .scr (frzL_ext e h)
  | _, _, .ty n => .ty n
theorem Reps.ext {K : PySem.W.Frag} {H H' : Hp} (e : Ext H H') : ∀ {ds : List D} {vs : List V}, Reps K H ds vs → Reps K H' ds vs
  | _, _, .nil => .nil
  | _, _, .cons a b => .cons (Rep.ext e a) (Reps.ext e b)
end
section
variable {K : PySem.W.Frag} {H : Hp}
theorem Reps.length : ∀ {ds : List D} {vs : List V}, Reps K H ds vs → ds.length = vs.length
  | _, _, .nil => rfl
  | _, _, .cons _ r => congrArg (· + 1) (Reps.length r)
theorem Reps.append : ∀ {ds es : List D} {vs us : List V}, Reps K H ds vs → Reps K H es us → Reps K H (ds ++ es) (vs ++ us)
  | _, _, _, _, .nil, s => s
  | _, _, _, _, .cons r t, s => .cons r (Reps.append t s)
theorem Reps.one {d : D} {v : V} (r : Rep K H d v) : Reps K H [d] [v] := .cons r .nil
theorem Reps.get : ∀ {ds : List D} {vs : List V} {i : Nat} {d : D}, Reps K H ds vs → ds[i]? = some d → ∃ v, vs[i]? = some v ∧ Rep K H d v
  | _, _, _, _, .nil, e => by simp at e
  | _, _, 0, _, .cons r _, e => by simp at e; subst e; exact ⟨_, rfl, r⟩
  | _, _, i + 1, d, .cons _ t, e => by
    obtain ⟨u, h1, h2⟩ := Reps.get (i := i) (d := d) t (by simpa using e)
    exact ⟨u, by simpa using h1, h2⟩
theorem Reps.getV : ∀ {ds : List D} {vs : List V} {i : Nat} {v : V}, Reps K H ds vs → vs[i]? = some v → ∃ d, ds[i]? = some d ∧ Rep K H d v
  | _, _, _, _, .nil, e => by simp at e
  | _, _, 0, _, .cons r _, e => by simp at e; subst e; exact ⟨_, rfl, r⟩
  | _, _, i + 1, d, .cons _ t, e => by
    obtain ⟨u, h1, h2⟩ := Reps.getV (i := i) t (by simpa using e)
    exact ⟨u, by simpa using h1, h2⟩
theorem Reps.set {d : D} {v : V} (r : Rep K H d v) : ∀ {ds : List D} {vs : List V} (i : Nat), Reps K H ds vs → Reps K H (ds.set i d) (vs.set i v)
  | _, _, _, .nil => .nil
  | _, _, 0, .cons _ t => .cons r t
  | _, _, i + 1, .cons q t => .cons q (Reps.set r i t)
theorem Reps.take : ∀ {ds : List D} {vs : List V} (n : Nat), Reps K H ds vs → Reps K H (ds.take n) (vs.take n)
  | _, _, 0, _ => .nil
  | _, _, _ + 1, .nil => .nil
  | _, _, n + 1, .cons r t => .cons r (Reps.take n t)
theorem Reps.drop : ∀ {ds : List D} {vs : List V} (n : Nat), Reps K H ds vs → Reps K H (ds.drop n) (vs.drop n)
  | _, _, 0, r => r
  | _, _, _ + 1, .nil => .nil
  | _, _, n + 1, .cons _ t => Reps.drop n t
theorem Reps.eraseIdx : ∀ {ds : List D} {vs : List V} (i : Nat), Reps K H ds vs → Reps K H (ds.eraseIdx i) (vs.eraseIdx i)
  | _, _, _, .nil => .nil
  | _, _, 0, .cons _ t => t
  | _, _, i + 1, .cons q t => .cons q (Reps.eraseIdx i t)
theorem Reps.dropLast : ∀ {ds : List D} {vs : List V}, Reps K H ds vs → Reps K H ds.dropLast vs.dropLast := fun {ds vs} r => by
  rw [List.dropLast_eq_take, List.dropLast_eq_take, r.length]; exact r.take _
theorem Reps.reverse : ∀ {ds : List D} {vs : List V}, Reps K H ds vs → Reps K H ds.reverse vs.reverse
  | _, _, .nil => .nil
  | _, _, .cons q t => by rw [List.reverse_cons, List.reverse_cons]; exact (Reps.reverse t).append (.one q)
theorem Reps.ints : ∀ {ns : List Int} {vs : List V}, Reps K H (ns.map D.int) vs → vs = ns.map V.int
  | [], _, .nil => rfl
  | _ :: _, _, .cons (.int _) t => congrArg _ (Reps.ints t)
theorem Reps.ofInts : ∀ (ns : List Int), Reps K H (ns.map D.int) (ns.map V.int)
  | [] => .nil
  | n :: r => .cons (.int n) (Reps.ofInts r)
theorem Reps.ofIntsV : ∀ {ns : List Int} {ds : List D}, Reps K H ds (ns.map V.int) → ds = ns.map D.int
  | [], _, .nil => rfl
  | _ :: _, _, .cons (.int _) t => congrArg _ (Reps.ofIntsV t)
end

/-! ### objects and partial heaps -/
inductive DO where
  /-- a list -/
  | lst (ds : List D)
  /-- a box of draws, its digits at dl; the digits (nobody writes them) -/
  | box (dl : Addr)
  | hid
  /-- an instance: its class, its attributes' names and values -/
  | ins (C : Addr) (ns : List Str) (ds : List D)
  /-- a def's table of code objects -/
  | tb
  /-- a dict, its keys ints or texts -/
  | dic (kvs : List (L2.Key × D))
abbrev DH := Addr → Option DO
def dupd (h : DH) (a : Addr) (o : DO) : DH := fun b => if b = a then some o else h b
theorem dupd_same {h : DH} {a : Addr} {o : DO} : dupd h a o a = some o := by unfold dupd; rw [if_pos rfl]
theorem dupd_ne {h : DH} {a b : Addr} {o : DO} (n : b ≠ a) : dupd h a o b = h b := by unfold dupd; rw [if_neg n]
theorem dupd_dupd {h : DH} {a : Addr} {o u : DO} : dupd (dupd h a o) a u = dupd h a u := by
  funext b; unfold dupd; split <;> rfl

def RepO (K : PySem.W.Frag) (_h : DH) (H : Hp) (a : Addr) : DO → Prop
  | .lst ds => ∃ vs, H a = some (.lst vs) ∧ Reps K H ds vs
  | .box dl => ∃ (t : Nat) (vs : List V) (ds : List D), H a = some (.lst (.ref dl :: .int (t : Int) :: vs)) ∧ Reps K H ds vs
  | .hid => ∃ (ns : List Int), H a = some (.lst (ns.map V.int))
  | .ins C ns ds => ∃ dx fv, H a = some (.ins C dx fv) ∧ fv.map (·.1) = ns ∧ Reps K H ds (fv.map (·.2))
  | .tb => GxR.TabG H a
  | .dic kvs => ∃ kv, H a = some (.dK kv) ∧ kv.map (·.1) = kvs.map (·.1) ∧ Reps K H (kvs.map (·.2)) (kv.map (·.2))
def RelH (K : PySem.W.Frag) (h : DH) (H : Hp) : Prop := ∀ a o, h a = some o → RepO K h H a o
theorem RelH.tracked {K : PySem.W.Frag} {h : DH} {H : Hp} (r : RelH K h H) {a : Addr} {o : DO} (e : h a = some o) : ∃ u, H a = some u := by
  have q := r a o e
  cases o with
  | lst ds => obtain ⟨vs, q, _⟩ := q; exact ⟨_, q⟩
  | box dl => obtain ⟨_, _, _, q, _⟩ := q; exact ⟨_, q⟩
  | hid => obtain ⟨_, q⟩ := q; exact ⟨_, q⟩
  | ins C ns ds => obtain ⟨_, _, q, _⟩ := q; exact ⟨_, q⟩
  | tb => obtain ⟨_, q, _⟩ := q; exact ⟨_, q⟩
  | dic kvs => obtain ⟨_, q, _⟩ := q; exact ⟨_, q⟩
theorem RelH.free {K : PySem.W.Frag} {h : DH} {H : Hp} (r : RelH K h H) {a : Addr} (e : H a = none) : h a = none := by
  cases q : h a with
  | none => rfl
  | some o => obtain ⟨u, z⟩ := r.tracked q; rw [e] at z; cases z
/-- what is told of an object stands where its own addresses stand -/
theorem RepO.move {K : PySem.W.Frag} {h h' : DH} {H H' : Hp} {a : Addr} {o : DO} (e : Ext H H') (ha : H' a = H a) (r : RepO K h H a o) : RepO K h' H' a o := by
  cases o with
  | lst ds => obtain ⟨vs, q, r⟩ := r; exact ⟨vs, ha.trans q, r.ext e⟩
  | box dl =>
    obtain ⟨t, vs, ds, q, rr⟩ := r
    exact ⟨t, vs, ds, ha.trans q, rr.ext e⟩
  | hid => obtain ⟨ns, q⟩ := r; exact ⟨ns, ha.trans q⟩
  | ins C ns ds => obtain ⟨dx, fv, q, n, r⟩ := r; exact ⟨dx, fv, ha.trans q, n, r.ext e⟩
  | tb => obtain ⟨ps, q, t⟩ := r; exact ⟨ps, ha.trans q, t⟩
  | dic kvs => obtain ⟨kv, q, n, r⟩ := r; exact ⟨kv, ha.trans q, n, r.ext e⟩
section
variable {K : PySem.W.Frag} {h : DH} {H : Hp}
/-- less is known -/
def Sub (h h' : DH) : Prop := ∀ a o, h a = some o → h' a = some o
theorem Sub.refl (h : DH) : Sub h h := fun _ _ e => e
theorem Sub.trans {h1 h2 h3 : DH} (a : Sub h1 h2) (b : Sub h2 h3) : Sub h1 h3 := fun c o e => b c o (a c o e)
theorem RelH.sub {h' : DH} (r : RelH K h H) (s : Sub h' h) : RelH K h' H := fun a o e =>
  (r a o (s a o e)).move (.refl _) rfl
/-- something new, not told -/
theorem RelH.new {p : Addr} {u : HO} (r : RelH K h H) (n : H p = none) : RelH K h (upd H p u) := fun a o e => by
  obtain ⟨z, hz⟩ := r.tracked e
  exact (r a o e).move (.new n) (upd_ne (ne_of_none hz n))
/-- something new, told -/
theorem RelH.newO {p : Addr} {u : HO} {o : DO} (r : RelH K h H) (n : H p = none) (q : RepO K (dupd h p o) (upd H p u) p o) : RelH K (dupd h p o) (upd H p u) := fun a o' e => by
  by_cases hp : a = p
  · subst hp; rw [dupd_same] at e; cases e; exact q
  · rw [dupd_ne hp] at e
    obtain ⟨z, hz⟩ := r.tracked e
    exact (r a o' e).move (.new n) (upd_ne (ne_of_none hz n))
/-- a told thing is written -/
theorem RelH.write {p : Addr} {u : HO} {o o0 : DO} (r : RelH K h H) (hp : h p = some o0) (e : Ext H (upd H p u)) (q : RepO K (dupd h p o) (upd H p u) p o) : RelH K (dupd h p o) (upd H p u) := fun a o' ea => by
  by_cases hap : a = p
  · subst hap; rw [dupd_same] at ea; cases ea; exact q
  · rw [dupd_ne hap] at ea
    exact (r a o' ea).move e (upd_ne hap)
end

/-! ### slots -/
abbrev DSt := List (Option D)
@[reducible] def lk : DSt → Nat → Option D
  | [], _ => none
  | x :: _, 0 => x
  | _ :: r, n + 1 => lk r n
/-- a slot is stored -/
@[reducible] def sto : DSt → Nat → Option D → DSt
  | [], _, _ => []
  | _ :: r, 0, d => d :: r
  | x :: r, n + 1, d => x :: sto r n d
theorem sto_eq : ∀ (τ : DSt) (i : Nat) (d : Option D), sto τ i d = τ.set i d
  | [], _, _ => rfl
  | _ :: _, 0, _ => rfl
  | _ :: r, n + 1, d => congrArg _ (sto_eq r n d)
theorem lk_set {d : D} : ∀ {τ : DSt} {i j : Nat} {e : D}, lk (τ.set i (some d)) j = some e → (j = i ∧ e = d) ∨ (j ≠ i ∧ lk τ j = some e)
  | [], i, j, e, h => by simp [lk] at h
  | x :: r, 0, 0, e, h => by simp [lk] at h; exact .inl ⟨rfl, h.symm⟩
  | x :: r, 0, j + 1, e, h => .inr ⟨by omega, h⟩
  | x :: r, i + 1, 0, e, h => .inr ⟨by omega, h⟩
  | x :: r, i + 1, j + 1, e, h => by
    rcases lk_set (τ := r) (i := i) (j := j) h with ⟨a, b⟩ | ⟨a, b⟩
    · exact .inl ⟨by omega, b⟩
    · exact .inr ⟨by omega, b⟩
theorem lk_wipe : ∀ {τ : DSt} {i j : Nat} {e : D}, lk (τ.set i none) j = some e → j ≠ i ∧ lk τ j = some e
  | [], i, j, e, h => by simp [lk] at h
  | x :: r, 0, 0, e, h => by simp [lk] at h
  | x :: r, 0, j + 1, e, h => ⟨by omega, h⟩
  | x :: r, i + 1, 0, e, h => ⟨by omega, h⟩
  | x :: r, i + 1, j + 1, e, h => by
    obtain ⟨a, b⟩ := lk_wipe (τ := r) (i := i) (j := j) h
    exact ⟨by omega, b⟩
/-- what is told of a state -/
structure RelS (K : PySem.W.Frag) (h : DH) (τ : DSt) (σ : L2.St) (H : Hp) : Prop where
  sl : ∀ i d, lk τ i = some d → ∃ v, σ[i]? = some (some v) ∧ Rep K H d v
  ob : RelH K h H
section
variable {K : PySem.W.Frag} {h : DH} {H : Hp} {τ : DSt} {σ : L2.St}
theorem RelS.to {h' : DH} {H' : Hp} (r : RelS K h τ σ H) (e : Ext H H') (o : RelH K h' H') : RelS K h' τ σ H' :=
  ⟨fun i d q => let ⟨v, a, b⟩ := r.sl i d q; ⟨v, a, b.ext e⟩, o⟩
theorem RelS.set {d : D} {v : V} {i : Nat} (r : RelS K h τ σ H) (hi : i < σ.length) (q : Rep K H d v) : RelS K h (τ.set i (some d)) (σ.set i (some v)) H := by
  refine ⟨fun j e hj => ?_, r.ob⟩
  rcases lk_set hj with ⟨rfl, rfl⟩ | ⟨ne, hj⟩
  · exact ⟨v, by rw [List.getElem?_set_self hi], q⟩
  · obtain ⟨u, a, b⟩ := r.sl j e hj
    exact ⟨u, by rw [List.getElem?_set_ne (Ne.symm ne)]; exact a, b⟩
/-- less is known -/
structure Weak (τ τ' : DSt) (h h' : DH) : Prop where
  sl : ∀ i d, lk τ' i = some d → lk τ i = some d
  ob : Sub h' h
theorem RelS.weak {τ' : DSt} {h' : DH} (r : RelS K h τ σ H) (w : Weak τ τ' h h') : RelS K h' τ' σ H :=
  ⟨fun i d q => r.sl i d (w.sl i d q), r.ob.sub w.ob⟩
end

/-! ### where one stands -/
structure Gc where
  P : Program
  w : World
  K : PySem.W.Frag
  mg : Str → Option Value
  base : Heap
/-- N: the def's names by slot; sc: the scope that runs; k: room for k calls; fn: names whose cells are the scope's own -/
structure Sta extends Gc where
  N : List Str
  sc : Scope
  k : Nat
  fn : Str → Bool
  tab : Option Addr := none
structure Rest where
  A : Around
  s_0 : Shared
  H_0 : Hp
  env : Env
  outer : List Env
  stack : List Env
  ex : List Addr
  pn : List (Addr × Obj)
@[reducible] def Sta.cx (S : Sta) (r : Rest) : Cx :=
  { prog := S.P, w := S.w, K := S.K, mg := S.mg, base := S.base, A := r.A, N := S.N, s_0 := r.s_0, H_0 := r.H_0, env := r.env, outer := r.outer, stack := r.stack, ex := r.ex, fn := S.fn, calm := true, pn := r.pn, xe := fun _ _ => False }
structure Vw (S : Sta) (r : Rest) : Prop where
  sc : r.env.scope = S.sc
  room : Room S.k r.A
  nd : S.N.Nodup
  tb : ∀ P, S.tab = some P → ∃ c, GxR.TabB S.base S.mg c P ∧ r.env.code = .ref c

/-! ### readings -/
abbrev RK := D → DH → Prop
abbrev RE := DSt → DH → RK → Prop
abbrev RT := DSt → DH → (Bool → DH → Prop) → Prop
abbrev RA := DSt → DH → (List D → DH → Prop) → Prop
structure DEnds where
  nx : DSt → DH → Prop
  rt : RK
  bk : DSt → DH → Prop := fun _ _ => False
  ct : DSt → DH → Prop := fun _ _ => False
abbrev RS := DEnds → DSt → DH → Prop

def tTop (X : Cx) (e : Expr) : TE := fun σ H Q => ∀ pins s, Inv X pins σ H s → wpAny (model X.prog X.w) X.A (eval e X.env) (EP X pins σ Q) X.xe s
theorem peTop {X : Cx} {e : Expr} : PE X e (tTop X e) := ⟨fun pins s _ _ _ I h => h pins s I⟩
def tTopT (X : Cx) (e : Expr) : TT := fun σ H Q => ∀ pins s, Inv X pins σ H s → wpAny (model X.prog X.w) X.A (isTrue e X.env (eval e X.env)) (TP X pins σ Q) X.xe s
theorem ptTop {X : Cx} {e : Expr} : PT X e (tTopT X e) := ⟨fun pins s _ _ _ I h => h pins s I⟩
def tTopA (X : Cx) (es : List Expr) : TA := fun σ H Q => ∀ pos pins s, Inv X pins σ H s → wpAny (model X.prog X.w) X.A (spliced (backTo pos (starEach es X.env))) (AP X pins σ Q) X.xe s
theorem paTop {X : Cx} {es : List Expr} : PA X es (tTopA X es) := ⟨fun pos pins s _ _ _ I h => h pos pins s I⟩
def tTopS (X : Cx) (st : Stmt) : TS := fun D σ H => ∀ pins s, Inv X pins σ H s → wpAny (model X.prog X.w) X.A (exec st X.env) (SP X pins D) X.xe s
theorem psTop {X : Cx} {st : Stmt} : PS X st (tTopS X st) := ⟨fun pins s _ _ _ I h => h pins s I⟩
def tTopSs (X : Cx) (st : List Stmt) : TS := fun D σ H => ∀ pins s, Inv X pins σ H s → wpAny (model X.prog X.w) X.A (execs st X.env) (SP X pins D) X.xe s
theorem pssTop {X : Cx} {st : List Stmt} : PSs X st (tTopSs X st) := ⟨fun pins s _ _ _ I h => h pins s I⟩

/-- behind an expression -/
def Kont (K : PySem.W.Frag) (H0 : Hp) (τ : DSt) (σ : L2.St) (Q : RK) (QV : VK) : Prop :=
  ∀ d v h H, Ext H0 H → RelS K h τ σ H → Rep K H d v → Q d h → QV v H
def KontT (K : PySem.W.Frag) (H0 : Hp) (τ : DSt) (σ : L2.St) (Q : Bool → DH → Prop) (QV : Bool → Hp → Prop) : Prop :=
  ∀ b h H, Ext H0 H → RelS K h τ σ H → Q b h → QV b H
def KontA (K : PySem.W.Frag) (H0 : Hp) (τ : DSt) (σ : L2.St) (Q : List D → DH → Prop) (QV : List V → Hp → Prop) : Prop :=
  ∀ ds vs h H, Ext H0 H → RelS K h τ σ H → Reps K H ds vs → Q ds h → QV vs H
structure KontS (K : PySem.W.Frag) (H0 : Hp) (n : Nat) (D : DEnds) (DV : Ends) : Prop where
  nx : ∀ τ h σ H, Ext H0 H → RelS K h τ σ H → σ.length = n → D.nx τ h → DV.nx σ H
  rt : ∀ d v h H, Ext H0 H → RelH K h H → Rep K H d v → D.rt d h → DV.rt v H
  bk : ∀ τ h σ H, Ext H0 H → RelS K h τ σ H → σ.length = n → D.bk τ h → DV.bk σ H
  ct : ∀ τ h σ H, Ext H0 H → RelS K h τ σ H → σ.length = n → D.ct τ h → DV.ct σ H

structure DE (S : Sta) (e : Expr) (t : RE) : Prop where
  run : ∀ τ h Q, t τ h Q → ∀ r, Vw S r → ∀ σ H QV, RelS S.K h τ σ H → Kont S.K H τ σ Q QV → tTop (S.cx r) e σ H QV
structure DT (S : Sta) (e : Expr) (t : RT) : Prop where
  run : ∀ τ h Q, t τ h Q → ∀ r, Vw S r → ∀ σ H QV, RelS S.K h τ σ H → KontT S.K H τ σ Q QV → tTopT (S.cx r) e σ H QV
structure DA (S : Sta) (es : List Expr) (t : RA) : Prop where
  run : ∀ τ h Q, t τ h Q → ∀ r, Vw S r → ∀ σ H QV, RelS S.K h τ σ H → KontA S.K H τ σ Q QV → tTopA (S.cx r) es σ H QV
structure DS (S : Sta) (st : Stmt) (t : RS) : Prop where
  run : ∀ D τ h, t D τ h → ∀ r, Vw S r → ∀ σ H DV, σ.length = S.N.length → RelS S.K h τ σ H → KontS S.K H S.N.length D DV → tTopS (S.cx r) st DV σ H
structure DSs (S : Sta) (st : List Stmt) (t : RS) : Prop where
  run : ∀ D τ h, t D τ h → ∀ r, Vw S r → ∀ σ H DV, σ.length = S.N.length → RelS S.K h τ σ H → KontS S.K H S.N.length D DV → tTopSs (S.cx r) st DV σ H
end DL
namespace DL
open PySem PySem.Spec PyProof.Rows L2

theorem Kont.at {K : PySem.W.Frag} {H H1 : Hp} {τ : DSt} {σ : L2.St} {Q : RK} {QV : VK} (k : Kont K H τ σ Q QV) (e : Ext H H1) : Kont K H1 τ σ Q QV :=
  fun d v h H2 e2 => k d v h H2 (e.trans e2)
theorem KontT.at {K : PySem.W.Frag} {H H1 : Hp} {τ : DSt} {σ : L2.St} {Q : Bool → DH → Prop} {QV : Bool → Hp → Prop} (k : KontT K H τ σ Q QV) (e : Ext H H1) : KontT K H1 τ σ Q QV :=
  fun d h H2 e2 => k d h H2 (e.trans e2)
theorem KontA.at {K : PySem.W.Frag} {H H1 : Hp} {τ : DSt} {σ : L2.St} {Q : List D → DH → Prop} {QV : List V → Hp → Prop} (k : KontA K H τ σ Q QV) (e : Ext H H1) : KontA K H1 τ σ Q QV :=
  fun d v h H2 e2 => k d v h H2 (e.trans e2)
theorem KontS.at {K : PySem.W.Frag} {H H1 : Hp} {n : Nat} {D : DEnds} {DV : Ends} (k : KontS K H n D DV) (e : Ext H H1) : KontS K H1 n D DV :=
  ⟨fun τ h σ H2 e2 => k.nx τ h σ H2 (e.trans e2), fun d v h H2 e2 => k.rt d v h H2 (e.trans e2), fun τ h σ H2 e2 => k.bk τ h σ H2 (e.trans e2), fun τ h σ H2 e2 => k.ct τ h σ H2 (e.trans e2)⟩
section
variable {K : PySem.W.Frag} {H : Hp} {τ : DSt} {σ : L2.St} {Q : RK} {QV : VK} {h : DH}
theorem Kont.val (k : Kont K H τ σ Q QV) (rs : RelS K h τ σ H) {d : D} {v : V} (r : Rep K H d v) (q : Q d h) : QV v H := k d v h H (.refl _) rs r q
theorem Kont.newTup (k : Kont K H τ σ Q QV) (rs : RelS K h τ σ H) {ds : List D} {vs : List V} (r : Reps K H ds vs) (q : Q (.tup ds) h) {p : Addr} (n : H p = none) : QV (.ref p) (upd H p (.tup vs)) :=
  k (.tup ds) (.ref p) h _ (.new n) (rs.to (.new n) (rs.ob.new n)) (.tup (SqT.of upd_same) (r.ext (.new n))) q
theorem RelH.newLst (rs : RelH K h H) {ds : List D} {vs : List V} (r : Reps K H ds vs) {p : Addr} (n : H p = none) : RelH K (dupd h p (.lst ds)) (upd H p (.lst vs)) :=
  rs.newO n ⟨vs, upd_same, r.ext (.new n)⟩
theorem Kont.newLst (k : Kont K H τ σ Q QV) (rs : RelS K h τ σ H) {ds : List D} {vs : List V} (r : Reps K H ds vs) (q : ∀ p, h p = none → Q (.ref p) (dupd h p (.lst ds))) {p : Addr} (n : H p = none) : QV (.ref p) (upd H p (.lst vs)) :=
  k (.ref p) (.ref p) _ _ (.new n) (rs.to (.new n) (RelH.newLst rs.ob r n)) (.ref p) (q p (rs.ob.free n))
theorem RelH.setLst (rs : RelH K h H) {p : Addr} {ds es : List D} {vs us : List V} (hp : h p = some (.lst ds)) (hv : H p = some (.lst vs)) (r : Reps K H es us) : RelH K (dupd h p (.lst es)) (upd H p (.lst us)) :=
  rs.write hp (.lst hv) ⟨us, upd_same, r.ext (.lst hv)⟩
theorem RelH.lst (rs : RelH K h H) {p : Addr} {ds : List D} (hp : h p = some (.lst ds)) : ∃ vs, H p = some (.lst vs) ∧ Reps K H ds vs := rs p _ hp
end

/-! ### operations by values -/
def OpD (S : Sta) (f : Value → Value → Sem Value) (r : D → D → DH → RK → Prop) : Prop :=
  ∀ rst, Vw S rst → ∀ dx dy h Q, r dx dy h Q → ∀ x y τ σ H QV, RelS S.K h τ σ H → Rep S.K H dx x → Rep S.K H dy y → Kont S.K H τ σ Q QV →
    ∀ pins s v u, Inv (S.cx rst) pins σ H s → RelV x v → RelV y u → wpAny (model S.P S.w) rst.A (f v u) (EP (S.cx rst) pins σ QV) (fun _ _ => False) s
theorem OpD.by {S : Sta} {f : Value → Value → Sem Value} {r : D → D → DH → RK → Prop} {rr : R2} (ho : ∀ rst, Vw S rst → OpR (S.cx rst) f rr)
    (hc : ∀ dx dy h Q, r dx dy h Q → ∀ x y τ σ H QV, RelS S.K h τ σ H → Rep S.K H dx x → Rep S.K H dy y → Kont S.K H τ σ Q QV → rr x y H QV) : OpD S f r :=
  fun rst vw dx dy h Q q x y τ σ H QV rs rx ry k pins s v u I r1 r2 => ho rst vw pins s σ H x y v u QV I r1 r2 (hc dx dy h Q q x y τ σ H QV rs rx ry k)

@[reducible] def rAdd : D → D → DH → RK → Prop
  | .int i, .int j, h, Q => Q (.int (i + j)) h
  | .str a, .str b, h, Q => a.length + b.length ≤ sizeLine ∧ Q (.str (a ++ b)) h
  | .tup a, .tup b, h, Q => a.length + b.length ≤ sizeLine ∧ Q (.tup (a ++ b)) h
  | .ref p, .ref q, h, Q => ∃ xs, h p = some (.lst xs) ∧ ∃ ys, h q = some (.lst ys) ∧ xs.length + ys.length ≤ sizeLine ∧ ∀ r, h r = none → Q (.ref r) (dupd h r (.lst (xs ++ ys)))
  | _, _, _, _ => False
theorem od_add {S : Sta} : OpD S (binaryOp .Add) rAdd := by
  refine OpD.by (rr := fun x y H Q => rI0 (fun i j => .int (i + j)) x y H Q ∨ (∃ i j, x = .str i ∧ y = .str j ∧ i.length + j.length ≤ sizeLine ∧ Q (.str (i ++ j)) H) ∨ rCatA S.K x y H Q ∨ rCat x y H Q)
    (fun rst vw => OpR.or op_add (OpR.or op_add_str (OpR.or (op_catA (X := S.cx rst)) op_cat))) ?_
  intro dx dy h Q q x y τ σ H QV rs rx ry k
  cases dx <;> cases dy <;> try exact q.elim
  · cases rx; cases ry; exact .inl ⟨_, _, rfl, rfl, k.val rs (.int _) q⟩
  · cases rx; cases ry; exact .inr (.inl ⟨_, _, rfl, rfl, q.1, k.val rs (.str _) q.2⟩)
  · cases rx with | tup h1 r1 => cases ry with | tup h2 r2 =>
    obtain ⟨q1, q2⟩ := q
    rw [r1.length, r2.length] at q1
    refine .inr (.inr (.inl ⟨_, _, _, _, rfl, rfl, h1, h2, q1, fun e => ?_, fun _ e => ?_, fun _ _ p np => k.newTup rs (r1.append r2) q2 np⟩))
    · subst e; cases r1; exact k.val rs (.tup h2 r2) q2
    · subst e; cases r2; rw [List.append_nil] at q2; exact k.val rs (.tup h1 r1) q2
  · cases rx; cases ry
    obtain ⟨xs, e1, ys, e2, z, q⟩ := q
    obtain ⟨vs, f1, r1⟩ := RelH.lst rs.ob e1
    obtain ⟨us, f2, r2⟩ := RelH.lst rs.ob e2
    rw [r1.length, r2.length] at z
    exact .inr (.inr (.inr ⟨_, _, _, _, rfl, rfl, f1, f2, z, fun p np => k.newLst rs (r1.append r2) q np⟩))
@[reducible] def rInt (C : Int → Int → Prop) (g : Int → Int → D) : D → D → DH → RK → Prop
  | .int i, .int j, h, Q => C i j ∧ Q (g i j) h
  | _, _, _, _ => False
@[reducible] def rInt0 (g : Int → Int → D) : D → D → DH → RK → Prop
  | .int i, .int j, h, Q => Q (g i j) h
  | _, _, _, _ => False
section
variable {S : Sta}
theorem od_int {f : Value → Value → Sem Value} {C : Int → Int → Prop} {g : Int → Int → Int} (ho : ∀ rst, Vw S rst → OpR (S.cx rst) f (rI C fun i j => .int (g i j))) : OpD S f (rInt C fun i j => .int (g i j)) := by
  refine OpD.by ho ?_
  intro dx dy h Q q x y τ σ H QV rs rx ry k
  cases dx <;> cases dy <;> try exact q.elim
  cases rx; cases ry; exact ⟨_, _, rfl, rfl, q.1, k.val rs (.int _) q.2⟩
theorem od_int0 {f : Value → Value → Sem Value} {g : Int → Int → Int} (ho : ∀ rst, Vw S rst → OpR (S.cx rst) f (rI0 fun i j => .int (g i j))) : OpD S f (rInt0 fun i j => .int (g i j)) := by
  refine OpD.by ho ?_
  intro dx dy h Q q x y τ σ H QV rs rx ry k
  cases dx <;> cases dy <;> try exact q.elim
  cases rx; cases ry; exact ⟨_, _, rfl, rfl, k.val rs (.int _) q⟩
theorem od_bl0 {f : Value → Value → Sem Value} {g : Int → Int → Bool} (ho : ∀ rst, Vw S rst → OpR (S.cx rst) f (rI0 fun i j => .bl (g i j))) : OpD S f (rInt0 fun i j => .bl (g i j)) := by
  refine OpD.by ho ?_
  intro dx dy h Q q x y τ σ H QV rs rx ry k
  cases dx <;> cases dy <;> try exact q.elim
  cases rx; cases ry; exact ⟨_, _, rfl, rfl, k.val rs (.bl _) q⟩
theorem od_sub : OpD S (binaryOp .Sub) (rInt0 fun i j => .int (i - j)) := od_int0 fun _ _ => op_sub
theorem od_mul : OpD S (binaryOp .Mult) (rInt CMul fun i j => .int (i * j)) := od_int fun _ _ => op_mul
theorem od_fdiv : OpD S (binaryOp .FloorDiv) (rInt CDiv fun i j => .int (i / j)) := od_int fun _ _ => op_fdiv
theorem od_mod : OpD S (binaryOp .Mod) (rInt (fun _ j => 0 < j) fun i j => .int (i % j)) := od_int fun _ _ => op_mod
theorem od_pow : OpD S (binaryOp .Pow) (rInt CPow fun i j => .int (i ^ j.toNat)) := od_int fun _ _ => op_pow
theorem od_lt : OpD S (compareOp .Lt) (rInt0 fun i j => .bl (decide (i < j))) := od_bl0 fun _ _ => op_lt
theorem od_le : OpD S (compareOp .LtE) (rInt0 fun i j => .bl (decide (i ≤ j))) := od_bl0 fun _ _ => op_le
theorem od_gt : OpD S (compareOp .Gt) (rInt0 fun i j => .bl (decide (j < i))) := od_bl0 fun _ _ => op_gt
theorem od_ge : OpD S (compareOp .GtE) (rInt0 fun i j => .bl (decide (j ≤ i))) := od_bl0 fun _ _ => op_ge
end

/-! ### data without references -/
mutual
def toP : D → PyData
  | .non => .none
  | .bl b => .bool b
  | .int i => .int i
  | .str x => .str x
  | .tup ds => .tuple (toPs ds)
  | .ref _ => .none
  | .scr _ => .none
  | .ty _ => .none
def toPs : List D → List PyData
  | [] => []
  | d :: ds => toP d :: toPs ds
end
mutual
/-- no reference, texts of signs, at most n tuples within one another -/
def dat : Nat → D → Bool
  | _, .non => true
  | _, .bl _ => true
  | _, .int _ => true
  | _, .str x => PyData.strOk x
  | 0, .tup _ => false
  | n + 1, .tup ds => dats n ds
  | _, .ref _ => false
  | _, .scr _ => false
  | _, .ty _ => false
def dats : Nat → List D → Bool
  | _, [] => true
  | n, d :: ds => dat n d && dats n ds
end
mutual
theorem toP_lay : ∀ (n : Nat) (d : D), dat n d = true → (toP d).canLay0 = true ∧ (toP d).depth ≤ n
  | _, .non, _ => ⟨rfl, Nat.zero_le _⟩
  | _, .bl _, _ => ⟨rfl, Nat.zero_le _⟩
  | _, .int _, _ => ⟨rfl, Nat.zero_le _⟩
  | _, .str x, h => ⟨by simp only [dat] at h; exact h, Nat.zero_le _⟩
  | 0, .tup _, h => by simp [dat] at h
  | n + 1, .tup ds, h => by
    obtain ⟨a, b⟩ := toPs_lay n ds (by simpa only [dat] using h)
    exact ⟨a, by show PyData.depthAll (toPs ds) + 1 ≤ n + 1; omega⟩
  | _, .ref _, h => by simp [dat] at h
  | _, .scr _, h => by simp [dat] at h
  | _, .ty _, h => by simp [dat] at h
theorem toPs_lay : ∀ (n : Nat) (ds : List D), dats n ds = true → PyData.canLayAll0 (toPs ds) = true ∧ PyData.depthAll (toPs ds) ≤ n
  | _, [], _ => ⟨rfl, Nat.zero_le _⟩
  | n, d :: ds, h => by
    simp only [dats, Bool.and_eq_true] at h
    obtain ⟨a, b⟩ := toP_lay n d h.1
    obtain ⟨a', b'⟩ := toPs_lay n ds h.2
    exact ⟨by simp only [toPs, PyData.canLayAll0, a, a', Bool.and_true], by show max (toP d).depth (PyData.depthAll (toPs ds)) ≤ n; omega⟩
end
mutual
theorem Rep.dp {K : PySem.W.Frag} {H : Hp} : ∀ {n : Nat} {d : D} {v : V}, Rep K H d v → dat n d = true → Dp K H v (toP d)
  | _, _, _, .non, _ => .non
  | _, _, _, .bl b, _ => .bl b
  | _, _, _, .int i, _ => .int i
  | _, _, _, .str x, _ => .str x
  | _, _, _, .ref a, h => by simp [dat] at h
  | 0, _, _, .tup _ _, h => by simp [dat] at h
  | n + 1, _, _, .tup a r, h => .tup a (Reps.dp (n := n) r (by simpa only [dat] using h))
  | _, _, _, .scr a, h => by simp [dat] at h
  | _, _, _, .ty a, h => by simp [dat] at h
theorem Reps.dp {K : PySem.W.Frag} {H : Hp} : ∀ {n : Nat} {ds : List D} {vs : List V}, Reps K H ds vs → dats n ds = true → DpAll K H vs (toPs ds)
  | _, _, _, .nil, _ => .nil
  | n, _, _, .cons a r, h => by
    simp only [dats, Bool.and_eq_true] at h
    exact .cons (Rep.dp (n := n) a h.1) (Reps.dp r h.2)
end
/-- == of data -/
def deq (x y : D) : Bool := PyData.eqv (toP x) (toP y)
theorem shaped_of {n : Nat} {d : D} (hn : n ≤ 60) (h : dat n d = true) : SeqAt.shaped (toP d) = true := by
  obtain ⟨a, b⟩ := toP_lay n d h
  unfold SeqAt.shaped
  simp only [a, Bool.true_and, decide_eq_true_eq]; omega
theorem vw_units {S : Sta} {r : Rest} (v : Vw S r) : r.A.units + 66 < cLine := by have := v.room.un; omega
theorem vw_calm {S : Sta} {r : Rest} (v : Vw S r) : r.A.handled = none := v.room.hd
/-- the answer, or its not -/
@[reducible] def ng : Bool → Bool → Bool
  | false, b => b
  | true, b => !b
theorem ng_if (n b : Bool) : (if n then !b else b) = ng n b := by cases n <;> rfl
@[reducible] def rEqB (neg : Bool) : D → D → DH → RK → Prop
  | .int i, .int j, h, Q => Q (.bl (ng neg (decide (i = j)))) h
  | .str a, .str b, h, Q => Q (.bl (ng neg (decide (a = b)))) h
  | .ref p, .ref q, h, Q => ∃ xs, h p = some (.lst xs) ∧ ∃ ys, h q = some (.lst ys) ∧ dats 50 xs = true ∧ dats 50 ys = true ∧ Q (.bl (ng neg (deq (.tup xs) (.tup ys)))) h
  | x, y, h, Q => dat 50 x = true ∧ dat 50 y = true ∧ Q (.bl (ng neg (deq x y))) h
@[reducible] def rEq : D → D → DH → RK → Prop := rEqB false
@[reducible] def rNe : D → D → DH → RK → Prop := rEqB true
theorem rEqB_conv {S : Sta} {neg : Bool} (dx dy : D) (h : DH) (Q : RK) (q : rEqB neg dx dy h Q) (x y : V) (τ : DSt) (σ : L2.St) (H : Hp) (QV : VK) (rs : RelS S.K h τ σ H) (rx : Rep S.K H dx x) (ry : Rep S.K H dy y) (k : Kont S.K H τ σ Q QV) :
    (scal x y = true ∧ QV (.bl (if neg then !decide (x = y) else decide (x = y))) H) ∨ ∃ d e, Dp S.K H x d ∧ Dp S.K H y e ∧ SeqAt.shaped d = true ∧ SeqAt.shaped e = true ∧ QV (.bl (if neg then !PyData.eqv d e else PyData.eqv d e)) H := by
  have gen : ∀ {dx dy : D} {x y : V}, Rep S.K H dx x → Rep S.K H dy y → (dat 50 dx = true ∧ dat 50 dy = true ∧ Q (.bl (ng neg (deq dx dy))) h) →
      ∃ d e, Dp S.K H x d ∧ Dp S.K H y e ∧ SeqAt.shaped d = true ∧ SeqAt.shaped e = true ∧ QV (.bl (if neg then !PyData.eqv d e else PyData.eqv d e)) H := fun rx ry ⟨a, b, q⟩ =>
    ⟨_, _, rx.dp a, ry.dp b, shaped_of (by decide) a, shaped_of (by decide) b, k.val rs (.bl _) (by rw [ng_if]; exact q)⟩
  unfold rEqB at q
  split at q
  · rename_i i j
    cases rx; cases ry
    refine .inl ⟨rfl, k.val rs (.bl _) ?_⟩
    rw [show decide (V.int i = V.int j) = decide (i = j) from by simp, ng_if]; exact q
  · rename_i a b
    cases rx; cases ry
    refine .inl ⟨rfl, k.val rs (.bl _) ?_⟩
    rw [show decide (V.str a = V.str b) = decide (a = b) from by simp, ng_if]; exact q
  · obtain ⟨xs, e1, ys, e2, a, b, q⟩ := q
    cases rx; cases ry
    obtain ⟨vs, f1, r1⟩ := RelH.lst rs.ob e1
    obtain ⟨us, f2, r2⟩ := RelH.lst rs.ob e2
    obtain ⟨a1, a2⟩ := toPs_lay 50 xs a
    obtain ⟨b1, b2⟩ := toPs_lay 50 ys b
    refine .inr ⟨.list (toPs xs), .list (toPs ys), .lst (SqL.of f1) (r1.dp a), .lst (SqL.of f2) (r2.dp b), ?_, ?_, k.val rs (.bl _) (by rw [ng_if]; exact q)⟩
    · unfold SeqAt.shaped; simp only [PyData.canLay0, a1, Bool.true_and, decide_eq_true_eq]; show PyData.depthAll (toPs xs) + 1 ≤ 64; omega
    · unfold SeqAt.shaped; simp only [PyData.canLay0, b1, Bool.true_and, decide_eq_true_eq]; show PyData.depthAll (toPs ys) + 1 ≤ 64; omega
  · exact .inr (gen rx ry q)
theorem od_eq {S : Sta} : OpD S (compareOp .Eq) rEq :=
  OpD.by (rr := fun x y H Q => L2.rEq x y H Q ∨ rEqD S.K x y H Q) (fun rst vw => OpR.or op_eq (op_eqD (X := S.cx rst) (by have := vw_units vw; show rst.A.units + 64 < cLine; omega))) fun dx dy h Q q x y τ σ H QV rs rx ry k => rEqB_conv (neg := false) dx dy h Q q x y τ σ H QV rs rx ry k
theorem od_ne {S : Sta} : OpD S (compareOp .NotEq) rNe :=
  OpD.by (rr := fun x y H Q => L2.rNe x y H Q ∨ rNeD S.K x y H Q) (fun rst vw => OpR.or op_ne (op_neD (X := S.cx rst) (by have := vw_units vw; show rst.A.units + 64 < cLine; omega))) fun dx dy h Q q x y τ σ H QV rs rx ry k => rEqB_conv (neg := true) dx dy h Q q x y τ σ H QV rs rx ry k
@[reducible] def isNon : D → Bool
  | .non => true
  | _ => false
theorem isNon_of {K : PySem.W.Frag} {H : Hp} {d : D} {v : V} (r : Rep K H d v) : decide (v = .non) = isNon d := by cases r <;> simp [isNon]
@[reducible] def rIsTF (neg : Bool) (b : Bool) : D → DH → RK → Prop
  | .bl a, h, Q => Q (.bl (ng neg (decide (a = b)))) h
  | _, _, _ => False
@[reducible] def rIs (neg : Bool) (x : D) : D → DH → RK → Prop
  | .non, h, Q => Q (.bl (ng neg (isNon x))) h
  | .bl b, h, Q => rIsTF neg b x h Q
  | _, _, _ => False
theorem od_is {S : Sta} : OpD S (compareOp .Is) (rIs false) := by
  refine OpD.by (fun rst vw => OpR.or op_isN op_isBl) ?_
  intro dx dy h Q q x y τ σ H QV rs rx ry k
  cases dy <;> try exact q.elim
  · cases ry
    exact .inl ⟨rfl, by rw [isNon_of rx]; exact k.val rs (.bl _) q⟩
  · cases ry
    cases dx <;> try exact q.elim
    cases rx
    exact .inr ⟨_, _, rfl, rfl, k.val rs (.bl _) q⟩
theorem od_isnot {S : Sta} : OpD S (compareOp .IsNot) (rIs true) := by
  refine OpD.by (fun rst vw => OpR.or op_notN op_notBl) ?_
  intro dx dy h Q q x y τ σ H QV rs rx ry k
  cases dy <;> try exact q.elim
  · cases ry
    exact .inl ⟨rfl, by rw [isNon_of rx]; exact k.val rs (.bl _) q⟩
  · cases ry
    cases dx <;> try exact q.elim
    cases rx
    exact .inr ⟨_, _, rfl, rfl, k.val rs (.bl _) q⟩

/-! ### names -/
def visK : Option NameKind → Bool
  | some .local => true
  | some .cell => true
  | some .free => true
  | _ => false
def visI (N : List Str) (sc : Scope) (i : Nat) : Bool := match N[i]? with
  | some x => visK (sc.names.lookup x) && !(x == ("__debug__" : Str)) && !(x == ("__classdict__" : Str))
  | none => false
def locI (N : List Str) (sc : Scope) (fn : Str → Bool) (i : Nat) : Bool := match N[i]? with
  | some x => (match sc.names.lookup x with
    | some .local => true
    | some .cell => fn x
    | _ => false)
  | none => false
def glbI (sc : Scope) (x : Str) : Bool := (match sc.names.lookup x with
  | some .globalImplicit => true
  | _ => false) && !(x == ("__debug__" : Str)) && !(x == ("__name__" : Str))
@[reducible] def rVar (i : Nat) : RE := fun τ h Q => match lk τ i with
  | some d => Q d h
  | none => False
@[reducible] def rC (d : D) : RE := fun _ h Q => Q d h
section
variable {S : Sta} {pos : Pos}
theorem visI_of {N : List Str} {sc : Scope} {i : Nat} {x : Str} (h : visI N sc i = true) (hN : N[i]? = some x) : Vis sc x ∧ (x == ("__debug__" : Str)) = false ∧ (x == ("__classdict__" : Str)) = false := by
  unfold visI at h
  rw [hN] at h
  simp only [Bool.and_eq_true, Bool.not_eq_true'] at h
  refine ⟨?_, h.1.2, h.2⟩
  have := h.1.1
  unfold visK at this
  unfold Vis
  split at this
  · rename_i e; exact .inl e
  · rename_i e; exact .inr (.inl e)
  · rename_i e; exact .inr (.inr e)
  · cases this
theorem glbI_of {sc : Scope} {x : Str} (h : glbI sc x = true) : sc.names.lookup x = some .globalImplicit ∧ (x == ("__debug__" : Str)) = false ∧ x ≠ ("__name__" : Str) := by
  unfold glbI at h
  simp only [Bool.and_eq_true, Bool.not_eq_true'] at h
  refine ⟨?_, h.1.2, fun e => by rw [e] at h; simp at h⟩
  have := h.1.1
  split at this
  · assumption
  · cases this
theorem gl_of {r : Rest} {x : Str} (v : Vw S r) (h : glbI S.sc x = true) : Gl (S.cx r) x := by
  show r.env.scope.names.lookup x = _
  rw [v.sc]; exact (glbI_of h).1
theorem de_var {i : Nat} {x : Str} (hv : visI S.N S.sc i = true) (hN : S.N[i]? = some x) : DE S (.Name x pos) (rVar i) := by
  refine ⟨fun τ h Q q r v σ H QV rs k pins s I => ?_⟩
  obtain ⟨a, b, c⟩ := visI_of hv hN
  refine (pe_var (X := S.cx r) hN (by show Vis r.env.scope x; rw [v.sc]; exact a) b c).run pins s σ H QV I ?_
  unfold rVar at q
  split at q
  · rename_i d e
    obtain ⟨u, hu, ru⟩ := rs.sl i d e
    exact ⟨u, hu, k.val rs ru q⟩
  · exact q.elim
theorem de_int {i : Int} {j : Nat} : DE S (.Constant (.int i) j pos) (rC (.int i)) := ⟨fun τ h Q q r v σ H QV rs k pins s I => pe_int.run pins s σ H QV I (k.val rs (.int i) q)⟩
theorem de_bl {i : Bool} {j : Nat} : DE S (.Constant (.bool i) j pos) (rC (.bl i)) := ⟨fun τ h Q q r v σ H QV rs k pins s I => pe_bl.run pins s σ H QV I (k.val rs (.bl i) q)⟩
theorem de_str {i : Str} {j : Nat} : DE S (.Constant (.str i) j pos) (rC (.str i)) := ⟨fun τ h Q q r v σ H QV rs k pins s I => pe_str.run pins s σ H QV I (k.val rs (.str i) q)⟩
theorem de_non {j : Nat} : DE S (.Constant .none j pos) (rC .non) := ⟨fun τ h Q q r v σ H QV rs k pins s I => pe_non.run pins s σ H QV I (k.val rs .non q)⟩

/-! ### operators, comparisons -/
@[reducible] def rBin (r : D → D → DH → RK → Prop) (ta tb : RE) : RE := fun τ h Q => ta τ h fun x h1 => tb τ h1 fun y h2 => r x y h2 Q
variable {a b c : Expr} {ta tb tc : RE} {ro ro' : D → D → DH → RK → Prop}
theorem bin_ {f : Value → Value → Sem Value} (ho : OpD S f ro) (ha : DE S a ta) (hb : DE S b tb) {τ : DSt} {h : DH} {Q : RK} (q : rBin ro ta tb τ h Q) {r : Rest} (v : Vw S r) {σ : L2.St} {H : Hp} {QV : VK} (rs : RelS S.K h τ σ H) (k : Kont S.K H τ σ Q QV)
    {pins : List (Addr × Obj)} {s : Shared} (I : Inv (S.cx r) pins σ H s) :
    wpAny (model S.P S.w) r.A (eval a r.env) (fun v s₁ => wpAny (model S.P S.w) r.A (eval b r.env) (fun u s₂ => wpAny (model S.P S.w) r.A (f v u) (EP (S.cx r) pins σ QV) (fun _ _ => False) s₂) (fun _ _ => False) s₁) (fun _ _ => False) s := by
  refine binT (X := S.cx r) (ta := tTop _ a) (tb := tTop _ b) peTop peTop I (R := fun x y H2 => ∃ d1 d2 h2, Ext H H2 ∧ RelS S.K h2 τ σ H2 ∧ Rep S.K H2 d1 x ∧ Rep S.K H2 d2 y ∧ ro d1 d2 h2 Q) ?_ ?_
  · refine ha.run τ h _ q r v σ H _ rs fun d1 v1 h1 H1 e1 rs1 rp1 q1 => ?_
    exact hb.run τ h1 _ q1 r v σ H1 _ rs1 fun d2 v2 h2 H2 e2 rs2 rp2 q2 => ⟨d1, d2, h2, e1.trans e2, rs2, rp1.ext e2, rp2, q2⟩
  · rintro vx vy s2 x y H2 I2 rx ry ⟨d1, d2, h2, e, rs2, r1, r2, q2⟩
    exact ho r v d1 d2 h2 Q q2 x y τ σ H2 QV rs2 r1 r2 (k.at e) pins s2 vx vy I2 rx ry
theorem de_bin {op : Operator} (ho : OpD S (binaryOp op) ro) (ha : DE S a ta) (hb : DE S b tb) : DE S (.BinOp a op b pos) (rBin ro ta tb) :=
  ⟨fun τ h Q q r v σ H QV rs k pins s I => wpAny_BinOp (bin_ ho ha hb q v rs k I)⟩
theorem de_cmp {op : CmpOp} (ho : OpD S (compareOp op) ro) (ha : DE S a ta) (hb : DE S b tb) (hm : behindInMarks op b = false) : DE S (.Compare a [op] [b] pos) (rBin ro ta tb) :=
  ⟨fun τ h Q q r v σ H QV rs k pins s I => wpAny_Compare1 (bin_ ho ha hb q v rs k I) hm⟩
/-- a value that must be a bool -/
@[reducible] def asB (Q : Bool → DH → Prop) : RK := fun d h => match d with
  | .bl b => Q b h
  | _ => False
@[reducible] def rTest (t : RE) : RT := fun τ h Q => t τ h (asB Q)
theorem kont_asB {K : PySem.W.Frag} {H : Hp} {τ : DSt} {σ : L2.St} {Q : Bool → DH → Prop} {QV : Bool → Hp → Prop} (k : KontT K H τ σ Q QV) : Kont K H τ σ (asB Q) fun v H' => ∃ b, v = .bl b ∧ QV b H' := fun d v h H e rs r q => by
  cases r <;> try exact q.elim
  exact ⟨_, rfl, k _ h H e rs q⟩
theorem dt_cmp {op : CmpOp} (ho : OpD S (compareOp op) ro) (ha : DE S a ta) (hb : DE S b tb) (hm : behindInMarks op b = false) : DT S (.Compare a [op] [b] pos) (rTest (rBin ro ta tb)) := by
  refine ⟨fun τ h Q q r v σ H QV rs k pins s I => ?_⟩
  refine wpAny_isTrue_Compare1 (thn (bin_ ho ha hb q v rs (kont_asB k) I) fun v1 s1 h1 => thn h1 fun v2 s2 h2 => thn h2 fun c s3 ⟨z, H3, I3, r3, b', e, q3⟩ => ?_) hm
  subst e
  cases r3
  exact wpAny_truthy_bool ⟨H3, I3, q3⟩
/-- a op b op' c -/
def Br (b : Bool) (A B : Prop) : Prop := (b = true → A) ∧ (b = false → B)
theorem br {b : Bool} {A B : Prop} (h1 : b = true → A) (h2 : b = false → B) : Br b A B := ⟨h1, h2⟩
theorem br_t {A B : Prop} (h : A) : Br true A B := ⟨fun _ => h, fun z => by cases z⟩
theorem br_f {A B : Prop} (h : B) : Br false A B := ⟨fun z => (by cases z), fun _ => h⟩
@[reducible] def rChain (ro ro' : D → D → DH → RK → Prop) (ta tb tc : RE) : RE := fun τ h Q => ta τ h fun x h1 => tb τ h1 fun y h2 => ro x y h2 fun z h3 => match z with
  | .bl b => Br b (tc τ h3 fun w h4 => ro' y w h4 Q) (Q (.bl false) h3)
  | _ => False
end
end DL
namespace DL
open PySem PySem.Spec PyProof.Rows L2
section
variable {S : Sta} {pos : Pos} {a b c e : Expr} {ta tb tc te : RE} {ro ro' : D → D → DH → RK → Prop}

theorem de_chain {op op' : CmpOp} (ho : OpD S (compareOp op) ro) (ho' : OpD S (compareOp op') ro') (ha : DE S a ta) (hb : DE S b tb) (hc : DE S c tc)
    (hm : lastMarks [op, op'] [b, c] = false) : DE S (.Compare a [op, op'] [b, c] pos) (rChain ro ro' ta tb tc) := by
  refine ⟨fun τ h Q q r v σ H QV rs k pins s I => ?_⟩
  refine Compare_chain ?_ hm
  have hA := (peTop (X := S.cx r) (e := a)).run pins s σ H _ I (ha.run τ h _ q r v σ H (fun x H1 => tTop (S.cx r) b σ H1 fun y H2 => ∃ d1 d2 h2, Ext H H2 ∧ RelS S.K h2 τ σ H2 ∧ Rep S.K H2 d1 x ∧ Rep S.K H2 d2 y ∧
      ro d1 d2 h2 (fun z h3 => match z with | .bl b => Br b (tc τ h3 fun w h4 => ro' d2 w h4 Q) (Q (.bl false) h3) | _ => False)) rs
    fun d1 v1 h1 H1 e1 rs1 rp1 q1 => hb.run τ h1 _ q1 r v σ H1 _ rs1 fun d2 v2 h2 H2 e2 rs2 rp2 q2 => ⟨d1, d2, h2, e1.trans e2, rs2, rp1.ext e2, rp2, q2⟩)
  refine thn hA fun vx s1 ⟨x, H1, I1, r1, q1⟩ => chain_link (thn (q1 pins s1 I1) fun vy s2 ⟨y, H2, I2, r2, d1, d2, h2, e2, rs2, rp1, rp2, q2⟩ => ?_)
  refine thn (ho r v d1 d2 h2 _ q2 x y τ σ H2 (fun z H3 => ∃ t h3, z = .bl t ∧ Ext H H3 ∧ RelS S.K h3 τ σ H3 ∧ Rep S.K H3 d2 y ∧ (if t = true then tc τ h3 fun w h4 => ro' d2 w h4 Q else Q (.bl false) h3)) rs2 rp1 rp2 ?_ pins s2 vx vy I2 r1 r2)
    fun vz s3 ⟨z, H3, I3, r3, t, h3, ez, e3, rs3, rp3, q3⟩ => ?_
  · intro dz z h3 H3 e3 rs3 rz q3
    cases dz with
    | bl t =>
      cases rz
      refine ⟨t, h3, rfl, e2.trans e3, rs3, rp2.ext e3, ?_⟩
      cases t with
      | true => rw [if_pos rfl]; exact q3.1 rfl
      | false => rw [if_neg (by simp)]; exact q3.2 rfl
    | _ => exact q3.elim
  · subst ez
    cases r3
    refine wpAny_truthy_bool ?_
    cases t with
    | false =>
      rw [if_neg (by simp)] at q3
      refine ite_ff ⟨.bl false, H3, I3, rfl, k _ _ h3 H3 e3 rs3 (.bl _) q3⟩
    | true =>
      rw [if_pos rfl] at q3
      refine ite_tt (chain_last ?_)
      refine thn ((peTop (X := S.cx r) (e := c)).run pins s3 σ H3 _ I3 (hc.run τ h3 _ q3 r v σ H3 (fun w H4 => ∃ d3 h4, Ext H3 H4 ∧ RelS S.K h4 τ σ H4 ∧ Rep S.K H4 d3 w ∧ ro' d2 d3 h4 Q) rs3 fun d3 w h4 H4 e4 rs4 rp4 q4 => ⟨d3, h4, e4, rs4, rp4, q4⟩))
        fun vw s4 ⟨w, H4, I4, r4, d3, h4, e4, rs4, rp4, q4⟩ => ?_
      exact ho' r v d2 d3 h4 Q q4 y w τ σ H4 QV rs4 (rp3.ext e4) rp4 (k.at (e3.trans e4)) pins s4 vy vw I4 r2 r4

/-! ### two ways -/
/-! ### truth -/
@[reducible] def rTru : D → DH → (Bool → DH → Prop) → Prop
  | .non, h, Q => Q false h
  | .bl b, h, Q => Q b h
  | .int i, h, Q => Q (i != 0) h
  | .str x, h, Q => x.length ≤ sizeLine ∧ Q ((x.length : Int) != 0) h
  | .tup ds, h, Q => Q (!ds.isEmpty) h
  | .scr ns, h, Q => Q (!ns.isEmpty) h
  | .ref p, h, Q => ∃ ds, h p = some (.lst ds) ∧ Q (!ds.isEmpty) h
  | .ty _, _, _ => False
theorem isEmpty_reps {K : PySem.W.Frag} {H : Hp} {ds : List D} {vs : List V} (r : Reps K H ds vs) : ds.isEmpty = vs.isEmpty := by cases r <;> rfl
theorem tru_conv {d : D} {h : DH} {Q : Bool → DH → Prop} (q : rTru d h Q) {v : V} {τ : DSt} {σ : L2.St} {H : Hp} (rs : RelS S.K h τ σ H) (rv : Rep S.K H d v) : ∃ k, TruV S.K v H k ∧ Q k h := by
  cases rv with
  | non => exact ⟨_, rfl, q⟩
  | bl b => exact ⟨_, rfl, q⟩
  | int i => exact ⟨_, rfl, q⟩
  | str x => exact ⟨_, ⟨q.1, rfl⟩, q.2⟩
  | ref p =>
    obtain ⟨ds, e, q⟩ := q
    obtain ⟨vs, f, r⟩ := RelH.lst rs.ob e
    exact ⟨_, .inl ⟨vs, SqL.of f, rfl⟩, by rw [← isEmpty_reps r]; exact q⟩
  | tup hh r => exact ⟨_, .inr (.inl ⟨_, hh, rfl⟩), by rw [← isEmpty_reps r]; exact q⟩
  | @scr a ns hh => exact ⟨_, .inl ⟨_, hh.sq, rfl⟩, by rw [show (List.map V.int ns).isEmpty = ns.isEmpty from by cases ns <;> rfl]; exact q⟩
  | ty n => exact q.elim
@[reducible] def rTruT (t : RE) : RT := fun τ h Q => t τ h fun d h1 => rTru d h1 Q
theorem dt_val (he : DE S e te) (hp : ∀ env whole, isTrue e env whole = (do let v ← whole; standAt e.pos; holding [v] (truthy v))) : DT S e (rTruT te) := by
  refine ⟨fun τ h Q q r v σ H QV rs k pins s I => ?_⟩
  refine (pt_truth (X := S.cx r) (peTop (e := e)) (hp _)).run pins s σ H QV I ?_
  refine he.run τ h _ q r v σ H _ rs fun d v1 h1 H1 e1 rs1 rp1 q1 => ?_
  obtain ⟨t, a, b⟩ := tru_conv q1 rs1 rp1
  exact ⟨t, a, k _ _ _ e1 rs1 b⟩
theorem dt_chain {op op' : CmpOp} (ho : OpD S (compareOp op) ro) (ho' : OpD S (compareOp op') ro') (ha : DE S a ta) (hb : DE S b tb) (hc : DE S c tc)
    (hm : lastMarks [op, op'] [b, c] = false) : DT S (.Compare a [op, op'] [b, c] pos) (rTest (rChain ro ro' ta tb tc)) := by
  refine ⟨fun τ h Q q r v σ H QV rs k pins s I => ?_⟩
  refine isTrue_chain ?_ hm
  have hA := (peTop (X := S.cx r) (e := a)).run pins s σ H _ I (ha.run τ h _ q r v σ H (fun x H1 => tTop (S.cx r) b σ H1 fun y H2 => ∃ d1 d2 h2, Ext H H2 ∧ RelS S.K h2 τ σ H2 ∧ Rep S.K H2 d1 x ∧ Rep S.K H2 d2 y ∧
      ro d1 d2 h2 (fun z h3 => match z with | .bl b => Br b (tc τ h3 fun w h4 => ro' d2 w h4 (asB Q)) (asB Q (.bl false) h3) | _ => False)) rs
    fun d1 v1 h1 H1 e1 rs1 rp1 q1 => hb.run τ h1 _ q1 r v σ H1 _ rs1 fun d2 v2 h2 H2 e2 rs2 rp2 q2 => ⟨d1, d2, h2, e1.trans e2, rs2, rp1.ext e2, rp2, q2⟩)
  refine thn hA fun vx s1 ⟨x, H1, I1, r1, q1⟩ => test_link (thn (q1 pins s1 I1) fun vy s2 ⟨y, H2, I2, r2, d1, d2, h2, e2, rs2, rp1, rp2, q2⟩ => ?_)
  refine thn (ho r v d1 d2 h2 _ q2 x y τ σ H2 (fun z H3 => ∃ t h3, z = .bl t ∧ Ext H H3 ∧ RelS S.K h3 τ σ H3 ∧ Rep S.K H3 d2 y ∧ (if t = true then tc τ h3 fun w h4 => ro' d2 w h4 (asB Q) else Q false h3)) rs2 rp1 rp2 ?_ pins s2 vx vy I2 r1 r2)
    fun vz s3 ⟨z, H3, I3, r3, t, h3, ez, e3, rs3, rp3, q3⟩ => ?_
  · intro dz z h3 H3 e3 rs3 rz q3
    cases dz with
    | bl t =>
      cases rz
      refine ⟨t, h3, rfl, e2.trans e3, rs3, rp2.ext e3, ?_⟩
      cases t with
      | true => rw [if_pos rfl]; exact q3.1 rfl
      | false => rw [if_neg (by simp)]; exact q3.2 rfl
    | _ => exact q3.elim
  · subst ez
    cases r3
    refine wpAny_truthy_bool ?_
    cases t with
    | false =>
      rw [if_neg (by simp)] at q3
      exact ite_ff ⟨H3, I3, k _ h3 H3 e3 rs3 q3⟩
    | true =>
      rw [if_pos rfl] at q3
      refine ite_tt (test_last ?_)
      refine thn ((peTop (X := S.cx r) (e := c)).run pins s3 σ H3 _ I3 (hc.run τ h3 _ q3 r v σ H3 (fun w H4 => ∃ d3 h4, Ext H3 H4 ∧ RelS S.K h4 τ σ H4 ∧ Rep S.K H4 d3 w ∧ ro' d2 d3 h4 (asB Q)) rs3 fun d3 w h4 H4 e4 rs4 rp4 q4 => ⟨d3, h4, e4, rs4, rp4, q4⟩))
        fun vw s4 ⟨w, H4, I4, r4, d3, h4, e4, rs4, rp4, q4⟩ => ?_
      refine thn (ho' r v d2 d3 h4 _ q4 y w τ σ H4 _ rs4 (rp3.ext e4) rp4 (kont_asB (k.at (e3.trans e4))) pins s4 vy vw I4 r2 r4) fun vc s5 ⟨z, H5, I5, r5, t, et, q5⟩ => ?_
      subst et
      cases r5
      exact wpAny_truthy_bool ⟨H5, I5, q5⟩

/-! ### and, or, not, if -/
variable {ttA ttB : RT} {rest : List Expr}
/-- a test whatever its whole is -/
structure DW (S : Sta) (e : Expr) (t : RT) : Prop where
  run : ∀ τ h Q, t τ h Q → ∀ r, Vw S r → ∀ σ H QV, RelS S.K h τ σ H → KontT S.K H τ σ Q QV → ∀ (whole : Sem Value) pins s, Inv (S.cx r) pins σ H s →
    wpAny (model S.P S.w) r.A (isTrue e r.env whole) (TP (S.cx r) pins σ QV) (fun _ _ => False) s
theorem DW.dt {t : RT} (h : DW S e t) : DT S e t := ⟨fun τ h' Q q r v σ H QV rs k pins s I => h.run τ h' Q q r v σ H QV rs k _ pins s I⟩
@[reducible] def rAnd (t u : RT) : RT := fun τ h Q => t τ h fun c h1 => Br c (u τ h1 Q) (Q false h1)
@[reducible] def rOr (t u : RT) : RT := fun τ h Q => t τ h fun c h1 => Br c (Q true h1) (u τ h1 Q)
@[reducible] def rNot (t : RT) : RT := fun τ h Q => t τ h fun c h1 => Q (!c) h1
theorem dw_and1 (ha : DT S a ttA) : DW S (.BoolOp .And [a] pos) ttA := by
  refine ⟨fun τ h Q q r v σ H QV rs k wh pins s I => ?_⟩
  refine isTrue_and (thn (ha.run τ h Q q r v σ H QV rs k pins s I) fun c s1 e => ?_)
  cases c with
  | true => exact isTrue_and_nil e
  | false => exact e
theorem dw_or1 (ha : DT S a ttA) : DW S (.BoolOp .Or [a] pos) ttA := by
  refine ⟨fun τ h Q q r v σ H QV rs k wh pins s I => ?_⟩
  refine isTrue_or (thn (ha.run τ h Q q r v σ H QV rs k pins s I) fun c s1 e => ?_)
  cases c with
  | false => exact isTrue_or_nil e
  | true => exact e
theorem dw_and (ha : DT S a ttA) (hb : DW S (.BoolOp .And (b :: rest) pos) ttB) : DW S (.BoolOp .And (a :: b :: rest) pos) (rAnd ttA ttB) := by
  refine ⟨fun τ h Q q r v σ H QV rs k wh pins s I => ?_⟩
  refine isTrue_and (thn (ha.run τ h _ q r v σ H (fun c H1 => ∃ h1, Ext H H1 ∧ RelS S.K h1 τ σ H1 ∧ (c = true → ttB τ h1 Q) ∧ (c = false → Q false h1)) rs (fun c h1 H1 e1 rs1 q1 => ⟨h1, e1, rs1, q1⟩) pins s I) fun c s1 ⟨H1, I1, h1, e1, rs1, q1, q2⟩ => ?_)
  cases c with
  | true => exact hb.run τ h1 Q (q1 rfl) r v σ H1 QV rs1 (k.at e1) wh pins s1 I1
  | false => exact ⟨H1, I1, k _ _ _ e1 rs1 (q2 rfl)⟩
theorem dw_or (ha : DT S a ttA) (hb : DW S (.BoolOp .Or (b :: rest) pos) ttB) : DW S (.BoolOp .Or (a :: b :: rest) pos) (rOr ttA ttB) := by
  refine ⟨fun τ h Q q r v σ H QV rs k wh pins s I => ?_⟩
  refine isTrue_or (thn (ha.run τ h _ q r v σ H (fun c H1 => ∃ h1, Ext H H1 ∧ RelS S.K h1 τ σ H1 ∧ (c = true → Q true h1) ∧ (c = false → ttB τ h1 Q)) rs (fun c h1 H1 e1 rs1 q1 => ⟨h1, e1, rs1, q1⟩) pins s I) fun c s1 ⟨H1, I1, h1, e1, rs1, q1, q2⟩ => ?_)
  cases c with
  | true => exact ⟨H1, I1, k _ _ _ e1 rs1 (q1 rfl)⟩
  | false => exact hb.run τ h1 Q (q2 rfl) r v σ H1 QV rs1 (k.at e1) wh pins s1 I1
theorem dt_not (ha : DT S a ttA) : DT S (.UnaryOp .Not a pos) (rNot ttA) := by
  refine ⟨fun τ h Q q r v σ H QV rs k pins s I => ?_⟩
  exact (pt_not (X := S.cx r) (ptTop (e := a))).run pins s σ H QV I (ha.run τ h _ q r v σ H _ rs fun c h1 H1 e1 rs1 q1 => k _ _ _ e1 rs1 q1)
/-- as values, by truth -/
@[reducible] def rAndV (ta tb : RE) : RE := fun τ h Q => ta τ h fun x h1 => rTru x h1 fun c h2 => Br c (tb τ h2 Q) (Q x h2)
@[reducible] def rOrV (ta tb : RE) : RE := fun τ h Q => ta τ h fun x h1 => rTru x h1 fun c h2 => Br c (Q x h2) (tb τ h2 Q)
@[reducible] def rNotV (ta : RE) : RE := fun τ h Q => ta τ h fun x h1 => rTru x h1 fun c h2 => Q (.bl (!c)) h2
theorem de_one {op} (h : DE S a ta) : DE S (.BoolOp op [a] pos) ta :=
  ⟨fun τ h' Q q r v σ H QV rs k pins s I => BoolOp_one (h.run τ h' Q q r v σ H QV rs k pins s I)⟩
theorem de_and (ha : DE S a ta) (hb : DE S (.BoolOp .And (b :: rest) pos) tb) : DE S (.BoolOp .And (a :: b :: rest) pos) (rAndV ta tb) := by
  refine ⟨fun τ h Q q r v σ H QV rs k pins s I => ?_⟩
  refine (pe_andT (X := S.cx r) (peTop (e := a)) (peTop (e := .BoolOp .And (b :: rest) pos))).run pins s σ H QV I ?_
  refine ha.run τ h _ q r v σ H _ rs fun d v1 h1 H1 e1 rs1 rp1 q1 => ?_
  obtain ⟨t, a1, b1, b2⟩ := tru_conv q1 rs1 rp1
  refine ⟨t, a1, ?_⟩
  cases t with
  | true => exact iteT (hb.run τ h1 Q (b1 rfl) r v σ H1 QV rs1 (k.at e1))
  | false => exact iteF (k _ _ _ _ e1 rs1 rp1 (b2 rfl))
theorem de_or (ha : DE S a ta) (hb : DE S (.BoolOp .Or (b :: rest) pos) tb) : DE S (.BoolOp .Or (a :: b :: rest) pos) (rOrV ta tb) := by
  refine ⟨fun τ h Q q r v σ H QV rs k pins s I => ?_⟩
  refine (pe_orT (X := S.cx r) (peTop (e := a)) (peTop (e := .BoolOp .Or (b :: rest) pos))).run pins s σ H QV I ?_
  refine ha.run τ h _ q r v σ H _ rs fun d v1 h1 H1 e1 rs1 rp1 q1 => ?_
  obtain ⟨t, a1, b1, b2⟩ := tru_conv q1 rs1 rp1
  refine ⟨t, a1, ?_⟩
  cases t with
  | true => exact iteT (k _ _ _ _ e1 rs1 rp1 (b1 rfl))
  | false => exact iteF (hb.run τ h1 Q (b2 rfl) r v σ H1 QV rs1 (k.at e1))
theorem de_not (ha : DE S a ta) : DE S (.UnaryOp .Not a pos) (rNotV ta) := by
  refine ⟨fun τ h Q q r v σ H QV rs k pins s I => ?_⟩
  refine (pe_notT (X := S.cx r) (peTop (e := a))).run pins s σ H QV I ?_
  refine ha.run τ h _ q r v σ H _ rs fun d v1 h1 H1 e1 rs1 rp1 q1 => ?_
  obtain ⟨t, a1, b1⟩ := tru_conv q1 rs1 rp1
  exact ⟨t, a1, k _ _ _ _ e1 rs1 (.bl _) b1⟩
@[reducible] def rIfE (t : RT) (ta tb : RE) : RE := fun τ h Q => t τ h fun c h1 => Br c (ta τ h1 Q) (tb τ h1 Q)
theorem de_if (hc : DT S c ttA) (ha : DE S a ta) (hb : DE S b tb) : DE S (.IfExp c a b pos) (rIfE ttA ta tb) := by
  refine ⟨fun τ h Q q r v σ H QV rs k pins s I => ?_⟩
  refine (pe_ifExp (X := S.cx r) (ptTop (e := c)) (peTop (e := a)) (peTop (e := b))).run pins s σ H QV I ?_
  refine hc.run τ h _ q r v σ H _ rs fun t h1 H1 e1 rs1 q1 => ?_
  cases t with
  | true => exact iteT (ha.run τ h1 Q (q1.1 rfl) r v σ H1 QV rs1 (k.at e1))
  | false => exact iteF (hb.run τ h1 Q (q1.2 rfl) r v σ H1 QV rs1 (k.at e1))
@[reducible] def rNeg : RE → RE := fun ta τ h Q => ta τ h fun x h1 => match x with
  | .int i => Q (.int (-i)) h1
  | _ => False
theorem de_neg (ha : DE S a ta) : DE S (.UnaryOp .USub a pos) (rNeg ta) := by
  refine ⟨fun τ h Q q r v σ H QV rs k pins s I => ?_⟩
  refine (pe_un (X := S.cx r) un_neg (peTop (e := a))).run pins s σ H QV I ?_
  refine ha.run τ h _ q r v σ H _ rs fun d v1 h1 H1 e1 rs1 rp1 q1 => ?_
  cases d <;> try exact q1.elim
  cases rp1
  exact ⟨_, rfl, k _ _ _ _ e1 rs1 (.int _) q1⟩

/-! ### arguments, displays -/
@[reducible] def rNil : RA := fun _ h Q => Q [] h
@[reducible] def rCons (t : RE) (u : RA) : RA := fun τ h Q => t τ h fun d h1 => u τ h1 fun ds h2 => Q (d :: ds) h2
variable {es : List Expr} {ua : RA}
theorem da_nil : DA S [] rNil := ⟨fun τ h Q q r v σ H QV rs k => fun pos pins s I => pa_nil.run pos pins s σ H QV I (k [] [] h H (.refl _) rs .nil q)⟩
theorem da_cons (ha : DE S e te) (hr : DA S es ua) (hs : ∀ env, starEach (e :: es) env = (false, eval e env) :: starEach es env) : DA S (e :: es) (rCons te ua) := by
  refine ⟨fun τ h Q q r v σ H QV rs k => fun pos pins s I => ?_⟩
  refine (pa_cons (X := S.cx r) (peTop (e := e)) (paTop (es := es)) (hs _)).run pos pins s σ H QV I ?_
  refine ha.run τ h _ q r v σ H _ rs fun d v1 h1 H1 e1 rs1 rp1 q1 => ?_
  exact hr.run τ h1 _ q1 r v σ H1 _ rs1 fun ds vs h2 H2 e2 rs2 rps q2 => k (d :: ds) (v1 :: vs) h2 H2 (e1.trans e2) rs2 (.cons (rp1.ext e2) rps) q2
@[reducible] def rTup (u : RA) : RE := fun τ h Q => u τ h fun ds h1 => ds.length ≤ sizeLine ∧ Q (.tup ds) h1
@[reducible] def rLst (u : RA) : RE := fun τ h Q => u τ h fun ds h1 => ds.length ≤ sizeLine ∧ ∀ p, h1 p = none → Q (.ref p) (dupd h1 p (.lst ds))
theorem de_tup {x1} (hu : DA S es ua) : DE S (.Tuple es x1 pos) (rTup ua) := by
  refine ⟨fun τ h Q q r v σ H QV rs k pins s I => ?_⟩
  refine (pe_tup (X := S.cx r) (paTop (es := es))).run pins s σ H QV I ?_
  refine hu.run τ h _ q r v σ H _ rs fun ds vs h1 H1 e1 rs1 rps q1 => ⟨by rw [← rps.length]; exact q1.1, fun p np => ?_⟩
  exact (k.at e1).newTup rs1 rps q1.2 np
theorem de_lst (hu : DA S es ua) : DE S (.List es pos) (rLst ua) := by
  refine ⟨fun τ h Q q r v σ H QV rs k pins s I => ?_⟩
  refine (pe_lst (X := S.cx r) (paTop (es := es))).run pins s σ H QV I ?_
  refine hu.run τ h _ q r v σ H _ rs fun ds vs h1 H1 e1 rs1 rps q1 => ⟨by rw [← rps.length]; exact q1.1, fun p np => ?_⟩
  exact (k.at e1).newLst rs1 rps q1.2 np
end
end DL
namespace DL
open PySem PySem.Spec PyProof.Rows L2

/-! ### subscripts -/
theorem Reps.atI {K : PySem.W.Frag} {H : Hp} {ds : List D} {vs : List V} (r : Reps K H ds vs) {i : Int} {d : D} (e : atI ds i = some d) : ∃ v, L2.atI vs i = some v ∧ Rep K H d v := by
  unfold L2.atI at e ⊢
  rw [r.length] at e
  cases q : ixN vs.length i with
  | none => rw [q] at e; cases e
  | some j => rw [q] at e; exact r.get (i := j) e
@[reducible] def rIx : D → D → DH → RK → Prop
  | .tup ds, .int i, h, Q => ∃ d, L2.atI ds i = some d ∧ Q d h
  | .ref p, .int i, h, Q => ∃ ds, h p = some (.lst ds) ∧ ∃ d, L2.atI ds i = some d ∧ Q d h
  | .scr ns, .int i, h, Q => ∃ z, L2.atI ns i = some z ∧ Q (.int z) h
  | .str x, .int i, h, Q => x.length ≤ sizeLine ∧ ∃ c, L2.atI x.cps.toList i = some c ∧ Q (.str ⟨#[c]⟩) h
  | _, _, _, _ => False
section
variable {S : Sta} {pos : Pos} {a b c e : Expr} {ta tb tc te : RE}
theorem atI_map {α β : Type} (f : α → β) (xs : List α) (i : Int) : L2.atI (xs.map f) i = (L2.atI xs i).map f := by
  unfold L2.atI
  rw [List.length_map]
  cases ixN xs.length i with
  | none => rfl
  | some j => simp
theorem ix_conv {dx dy : D} {h : DH} {Q : RK} (q : rIx dx dy h Q) {x y : V} {τ : DSt} {σ : L2.St} {H : Hp} {QV : VK} (rs : RelS S.K h τ σ H) (rx : Rep S.K H dx x) (ry : Rep S.K H dy y) (k : Kont S.K H τ σ Q QV) : L2.rIx S.K x y H QV := by
  cases dx <;> cases dy <;> try exact q.elim
  · obtain ⟨z, d, e, q⟩ := q
    cases rx; cases ry
    exact .inr (.inr ⟨_, _, _, rfl, rfl, z, e, k.val rs (.str _) q⟩)
  · obtain ⟨d, e, q⟩ := q
    cases ry
    cases rx with | tup hh r =>
    obtain ⟨v, e1, r1⟩ := r.atI e
    exact .inr (.inl ⟨_, _, _, _, rfl, rfl, hh, e1, k.val rs r1 q⟩)
  · obtain ⟨ds, hp, d, e, q⟩ := q
    cases rx; cases ry
    obtain ⟨vs, f, r⟩ := RelH.lst rs.ob hp
    obtain ⟨v, e1, r1⟩ := r.atI e
    exact .inl ⟨_, _, _, _, rfl, rfl, SqL.of f, e1, k.val rs r1 q⟩
  · obtain ⟨z, e, q⟩ := q
    cases ry
    cases rx with | scr hh =>
    exact .inl ⟨_, _, _, _, rfl, rfl, hh.sq, by rw [atI_map, e]; rfl, k.val rs (.int z) q⟩
theorem de_ix (ha : DE S a ta) (hb : DE S b tb) (hs : PlainIx b) : DE S (.Subscript a b pos) (rBin rIx ta tb) := by
  refine ⟨fun τ h Q q r v σ H QV rs k pins s I => ?_⟩
  refine (pe_ix (X := S.cx r) ix_seq (peTop (e := a)) (peTop (e := b)) hs).run pins s σ H QV I ?_
  refine ha.run τ h _ q r v σ H _ rs fun d1 v1 h1 H1 e1 rs1 rp1 q1 => ?_
  exact hb.run τ h1 _ q1 r v σ H1 _ rs1 fun d2 v2 h2 H2 e2 rs2 rp2 q2 => ix_conv q2 rs2 (rp1.ext e2) rp2 (k.at (e1.trans e2))
/-! ### slices -/
abbrev RO := DSt → DH → (Option Int → DH → Prop) → Prop
structure DO' (S : Sta) (e : Option Expr) (t : RO) : Prop where
  run : ∀ τ h Q, t τ h Q → ∀ r, Vw S r → ∀ σ H (QV : Option Int → Hp → Prop), RelS S.K h τ σ H → (∀ o h1 H1, Ext H H1 → RelS S.K h1 τ σ H1 → Q o h1 → QV o H1) →
    ∀ pins s, Inv (S.cx r) pins σ H s → wpAny (model S.P S.w) r.A (evalPart e r.env) (fun u s' => ∃ o H', Inv (S.cx r) pins σ H' s' ∧ IsPart u o ∧ QV o H') (fun _ _ => False) s
@[reducible] def rNoPart : RO := fun _ h Q => Q none h
@[reducible] def rPart (t : RE) : RO := fun τ h Q => t τ h fun d h1 => match d with
  | .int i => Q (some i) h1
  | _ => False
theorem do_none : DO' S none rNoPart := ⟨fun τ h Q q r v σ H QV rs k pins s I => po_none.run pins s σ H QV I (k _ _ _ (.refl _) rs q)⟩
theorem do_some (he : DE S e te) : DO' S (some e) (rPart te) := by
  refine ⟨fun τ h Q q r v σ H QV rs k pins s I => ?_⟩
  refine (po_some (X := S.cx r) (peTop (e := e))).run pins s σ H QV I ?_
  refine he.run τ h _ q r v σ H _ rs fun d v1 h1 H1 e1 rs1 rp1 q1 => ?_
  cases d <;> try exact q1.elim
  cases rp1
  exact ⟨_, rfl, k _ _ _ e1 rs1 q1⟩
/-- the items of xs[lo:hi] -/
def cut {α : Type} (xs : List α) (lo hi : Option Int) : List α := (xs.drop (HT.sIx xs.length 0 lo)).take (HT.sIx xs.length xs.length hi - HT.sIx xs.length 0 lo)
theorem Reps.cut {K : PySem.W.Frag} {H : Hp} {ds : List D} {vs : List V} (r : Reps K H ds vs) (lo hi : Option Int) : Reps K H (DL.cut ds lo hi) (cutV vs lo hi) := by
  unfold DL.cut cutV
  rw [r.length]
  exact (r.drop _).take _
theorem cut_whole {α : Type} {xs : List α} {lo hi : Option Int} (h : HT.sIx xs.length 0 lo = 0 ∧ HT.sIx xs.length xs.length hi = xs.length) : cut xs lo hi = xs := by
  unfold cut
  rw [h.1, h.2]; simp
@[reducible] def rSl : D → Option Int → Option Int → DH → RK → Prop
  | .tup ds, lo, hi, h, Q => Q (.tup (cut ds lo hi)) h
  | .ref p, lo, hi, h, Q => ∃ ds, h p = some (.lst ds) ∧ ∀ r, h r = none → Q (.ref r) (dupd h r (.lst (cut ds lo hi)))
  | .str x, lo, hi, h, Q => x.length ≤ sizeLine ∧ Q (.str (cutS x lo hi)) h
  | _, _, _, _, _ => False
@[reducible] def rSlice (t : RE) (lo hi : RO) : RE := fun τ h Q => t τ h fun d h1 => lo τ h1 fun l h2 => hi τ h2 fun u h3 => rSl d l u h3 Q
theorem de_slice {lo hi : Option Expr} {tl th : RO} {p2 : Pos} (he : DE S e te) (hl : DO' S lo tl) (hu : DO' S hi th) : DE S (.Subscript e (.Slice lo hi none p2) pos) (rSlice te tl th) := by
  refine ⟨fun τ h Q q r v σ H QV rs k pins s I => ?_⟩
  have pl : PO (S.cx r) lo (fun σ H Q => ∀ pins s, Inv (S.cx r) pins σ H s → wpAny (model S.P S.w) r.A (evalPart lo r.env) (fun u s' => ∃ o H', Inv (S.cx r) pins σ H' s' ∧ IsPart u o ∧ Q o H') (fun _ _ => False) s) := ⟨fun pins s σ H Q I h => h pins s I⟩
  have ph : PO (S.cx r) hi (fun σ H Q => ∀ pins s, Inv (S.cx r) pins σ H s → wpAny (model S.P S.w) r.A (evalPart hi r.env) (fun u s' => ∃ o H', Inv (S.cx r) pins σ H' s' ∧ IsPart u o ∧ Q o H') (fun _ _ => False) s) := ⟨fun pins s σ H Q I h => h pins s I⟩
  refine (pe_slice (X := S.cx r) (SlR.or (SlR.or (sl_tupA (X := S.cx r)) sl_list) sl_str) (peTop (e := e)) pl ph).run pins s σ H QV I ?_
  refine he.run τ h _ q r v σ H _ rs fun d v1 h1 H1 e1 rs1 rp1 q1 => ?_
  refine hl.run τ h1 _ q1 r v σ H1 _ rs1 fun l h2 H2 e2 rs2 q2 => ?_
  refine hu.run τ h2 _ q2 r v σ H2 _ rs2 fun u h3 H3 e3 rs3 q3 => ?_
  have k3 := k.at (e1.trans (e2.trans e3))
  have rp3 := rp1.ext (e2.trans e3)
  cases rp3 <;> try exact q3.elim
  · exact .inr ⟨_, rfl, q3.1, k3.val rs3 (.str _) q3.2⟩
  · obtain ⟨ds, hp, q3⟩ := q3
    obtain ⟨vs, f, rr⟩ := RelH.lst rs3.ob hp
    exact .inl (.inr ⟨_, _, rfl, SqL.of f, fun p np => k3.newLst rs3 (rr.cut l u) q3 np⟩)
  · rename_i vs ds hh rr
    refine .inl (.inl ⟨_, _, rfl, hh, fun hw => ?_, fun _ p np => k3.newTup rs3 (rr.cut l u) q3 np⟩)
    have e0 : cut ds l u = ds := cut_whole (by rw [rr.length]; exact hw)
    exact k3.val rs3 (.tup hh rr) (by rw [← e0]; exact q3)

/-! ### calls of built-ins -/
def CallD (S : Sta) (f : Value) (r : List D → DH → RK → Prop) : Prop :=
  ∀ rst, Vw S rst → ∀ ds h Q, r ds h Q → ∀ vs τ σ H QV, RelS S.K h τ σ H → Reps S.K H ds vs → Kont S.K H τ σ Q QV →
    ∀ pins s us, Inv (S.cx rst) pins σ H s → Vals vs us → wpAny (model S.P S.w) rst.A (call f us) (EP (S.cx rst) pins σ QV) (fun _ _ => False) s
theorem CallD.by {f : Value} {r : List D → DH → RK → Prop} (ho : ∀ rst, Vw S rst → ∃ rr, CallR (S.cx rst) f rr ∧
    ∀ ds h Q, r ds h Q → ∀ vs τ σ H QV pins s, Inv (S.cx rst) pins σ H s → RelS S.K h τ σ H → Reps S.K H ds vs → Kont S.K H τ σ Q QV → rr vs H QV) : CallD S f r :=
  fun rst vw ds h Q q vs τ σ H QV rs rv k pins s us I r1 => let ⟨_, ho, hc⟩ := ho rst vw; ho pins s σ H vs us QV I r1 (hc ds h Q q vs τ σ H QV pins s I rs rv k)
variable {es : List Expr} {ua : RA} {x : Str} {p : Pos} {id T : String} {rr : List D → DH → RK → Prop}
@[reducible] def rCall (rr : List D → DH → RK → Prop) (ua : RA) : RE := fun τ h Q => ua τ h fun ds h1 => rr ds h1 Q
theorem de_callB (hc : CallD S (.builtin id) rr) (hg : glbI S.sc x = true) (hm : S.mg x = none) (hv : bootBuiltins x = some (.builtin id)) (ha : DA S (e :: es) ua)
    (he : ∀ env, starEach (e :: es) env = (false, eval e env) :: starEach es env) (hpl : ∀ env, (backTo pos (starEach es env)).any (·.1) = false) : DE S (.Call (.Name x p) (e :: es) [] pos) (rCall rr ua) := by
  refine ⟨fun τ h Q q r v σ H QV rs k pins s I => ?_⟩
  obtain ⟨g1, g2, g3⟩ := glbI_of hg
  refine wpAny_Call_Name_kw (ld_blt I (gl_of v hg) hm hv ?_ g3 g2)
  refine PyProof.Rows.callWith_builtin1 (thn (ha.run τ h _ q r v σ H (fun vs H1 => ∃ ds h1, Ext H H1 ∧ RelS S.K h1 τ σ H1 ∧ Reps S.K H1 ds vs ∧ rr ds h1 Q) rs (fun ds vs h1 H1 e1 rs1 rp1 q1 => ⟨ds, h1, e1, rs1, rp1, q1⟩) pos pins s I) fun us s1 ⟨vs, H1, I1, r1, ds, h1, e1, rs1, rp1, q1⟩ => ?_) (he _) (hpl _)
  exact hc r v ds h1 Q q1 vs τ σ H1 QV rs1 rp1 (k.at e1) pins s1 us I1 r1
theorem de_callTy (hc : CallD S (.type T) rr) (hg : glbI S.sc x = true) (hm : S.mg x = none) (hv : bootBuiltins x = some (.type T)) (ha : DA S (e :: es) ua)
    (he : ∀ env, starEach (e :: es) env = (false, eval e env) :: starEach es env) (hpl : ∀ env, (backTo pos (starEach es env)).any (·.1) = false) : DE S (.Call (.Name x p) (e :: es) [] pos) (rCall rr ua) := by
  refine ⟨fun τ h Q q r v σ H QV rs k pins s I => ?_⟩
  obtain ⟨g1, g2, g3⟩ := glbI_of hg
  refine wpAny_Call_Name_kw (ld_blt I (gl_of v hg) hm hv ?_ g3 g2)
  refine PyProof.Rows.callWith_type1 (thn (ha.run τ h _ q r v σ H (fun vs H1 => ∃ ds h1, Ext H H1 ∧ RelS S.K h1 τ σ H1 ∧ Reps S.K H1 ds vs ∧ rr ds h1 Q) rs (fun ds vs h1 H1 e1 rs1 rp1 q1 => ⟨ds, h1, e1, rs1, rp1, q1⟩) pos pins s I) fun us s1 ⟨vs, H1, I1, r1, ds, h1, e1, rs1, rp1, q1⟩ => ?_) (he _) (hpl _)
  exact hc r v ds h1 Q q1 vs τ σ H1 QV rs1 rp1 (k.at e1) pins s1 us I1 r1
/-- a built-in's name as a value: a class -/
theorem de_ty (hg : glbI S.sc x = true) (hm : S.mg x = none) (hv : bootBuiltins x = some (.type T)) : DE S (.Name x p) (rC (.ty T)) := by
  refine ⟨fun τ h Q q r v σ H QV rs k pins s I => ?_⟩
  obtain ⟨g1, g2, g3⟩ := glbI_of hg
  exact (pe_bltn (X := S.cx r) (v := .ty T) (gl_of v hg) hm hv rfl g3 g2).run pins s σ H QV I (k.val rs (.ty T) q)

@[reducible] def rLen : List D → DH → RK → Prop
  | [.str x], h, Q => x.length ≤ sizeLine ∧ Q (.int x.length) h
  | [.tup ds], h, Q => ds.length ≤ sizeLine → Q (.int ds.length) h
  | [.scr ns], h, Q => Q (.int ns.length) h
  | [.ref p], h, Q => ∃ ds, h p = some (.lst ds) ∧ (ds.length ≤ sizeLine → Q (.int ds.length) h)
  | _, _, _ => False
theorem reps1 {K : PySem.W.Frag} {H : Hp} {d : D} {vs : List V} (r : Reps K H [d] vs) : ∃ v, vs = [v] ∧ Rep K H d v := by
  cases r with | cons a b => cases b; exact ⟨_, rfl, a⟩
theorem reps2 {K : PySem.W.Frag} {H : Hp} {d e : D} {vs : List V} (r : Reps K H [d, e] vs) : ∃ v u, vs = [v, u] ∧ Rep K H d v ∧ Rep K H e u := by
  cases r with | cons a b => obtain ⟨u, rfl, c⟩ := reps1 b; exact ⟨_, _, rfl, a, c⟩
theorem cd_len : CallD S (.builtin "len") rLen := by
  refine CallD.by fun rst vw => ⟨_, call_len (X := S.cx rst), ?_⟩
  intro ds h Q q vs τ σ H QV pins s I rs rv k
  unfold rLen at q
  split at q
  · obtain ⟨v, rfl, r⟩ := reps1 rv
    cases r
    exact ⟨_, _, rfl, ⟨q.1, rfl⟩, k.val rs (.int _) q.2⟩
  · obtain ⟨v, rfl, r⟩ := reps1 rv
    cases r with | tup hh rr => exact ⟨_, _, rfl, .inr ⟨_, hh, rr.length⟩, k.val rs (.int _) (q (by obtain ⟨_, _, _, z⟩ := I.tuple hh; rw [rr.length]; exact z))⟩
  · obtain ⟨v, rfl, r⟩ := reps1 rv
    cases r with | scr hh => exact ⟨_, _, rfl, .inl ⟨_, hh.sq, (List.length_map _).symm⟩, k.val rs (.int _) q⟩
  · obtain ⟨v, rfl, r⟩ := reps1 rv
    cases r
    obtain ⟨es, hp, q⟩ := q
    obtain ⟨vs, f, rr⟩ := RelH.lst rs.ob hp
    exact ⟨_, _, rfl, .inl ⟨_, SqL.of f, rr.length⟩, k.val rs (.int _) (q (by obtain ⟨_, _, _, z⟩ := I.list (SqL.of f); rw [rr.length]; exact z))⟩
  · exact q.elim
@[reducible] def rTuple : List D → DH → RK → Prop
  | [.tup ds], h, Q => Q (.tup ds) h
  | [.ref p], h, Q => ∃ ds, h p = some (.lst ds) ∧ Q (.tup ds) h
  | _, _, _ => False
theorem cd_tuple : CallD S (.type "tuple") rTuple := by
  refine CallD.by fun rst vw => ⟨_, call_tuple_of (X := S.cx rst), ?_⟩
  intro ds h Q q vs τ σ H QV pins s I rs rv k
  unfold rTuple at q
  split at q
  · obtain ⟨v, rfl, r⟩ := reps1 rv
    cases r with | tup hh rr => exact ⟨_, _, rfl, .inr ⟨hh, k.val rs (.tup hh rr) q⟩⟩
  · obtain ⟨v, rfl, r⟩ := reps1 rv
    cases r
    obtain ⟨es, hp, q⟩ := q
    obtain ⟨vs, f, rr⟩ := RelH.lst rs.ob hp
    exact ⟨_, _, rfl, .inl ⟨SqL.of f, fun l hl => k.newTup rs rr q hl⟩⟩
  · exact q.elim
@[reducible] def rList : List D → DH → RK → Prop
  | [.tup ds], h, Q => ∀ r, h r = none → Q (.ref r) (dupd h r (.lst ds))
  | [.ref p], h, Q => ∃ ds, h p = some (.lst ds) ∧ ∀ r, h r = none → Q (.ref r) (dupd h r (.lst ds))
  | _, _, _ => False
theorem cd_list : CallD S (.type "list") rList := by
  refine CallD.by fun rst vw => ⟨_, call_list_of (X := S.cx rst), ?_⟩
  intro ds h Q q vs τ σ H QV pins s I rs rv k
  unfold rList at q
  split at q
  · obtain ⟨v, rfl, r⟩ := reps1 rv
    cases r with | tup hh rr => exact ⟨_, _, rfl, .inr hh, fun l hl => k.newLst rs rr q hl⟩
  · obtain ⟨v, rfl, r⟩ := reps1 rv
    cases r
    obtain ⟨es, hp, q⟩ := q
    obtain ⟨vs, f, rr⟩ := RelH.lst rs.ob hp
    exact ⟨_, _, rfl, .inl (SqL.of f), fun l hl => k.newLst rs rr q hl⟩
  · exact q.elim
@[reducible] def rIntC : List D → DH → RK → Prop
  | [.int i], h, Q => Q (.int i) h
  | [.bl b], h, Q => Q (.int (if b then 1 else 0)) h
  | _, _, _ => False
theorem cd_int : CallD S (.type "int") rIntC := by
  refine CallD.by fun rst vw => ⟨_, call_int1 (X := S.cx rst), ?_⟩
  intro ds h Q q vs τ σ H QV pins s I rs rv k
  unfold rIntC at q
  split at q
  · obtain ⟨v, rfl, r⟩ := reps1 rv
    cases r; exact .inl ⟨_, rfl, k.val rs (.int _) q⟩
  · obtain ⟨v, rfl, r⟩ := reps1 rv
    cases r; exact .inr ⟨_, rfl, k.val rs (.int _) q⟩
  · exact q.elim
@[reducible] def rMax2 : List D → DH → RK → Prop
  | [.int i, .int j], h, Q => Q (.int (if j > i then j else i)) h
  | _, _, _ => False
@[reducible] def rMin2 : List D → DH → RK → Prop
  | [.int i, .int j], h, Q => Q (.int (if j < i then j else i)) h
  | _, _, _ => False
theorem cd_max2 : CallD S (.builtin "max") rMax2 := by
  refine CallD.by fun rst vw => ⟨_, call_max2 (X := S.cx rst) rfl, ?_⟩
  intro ds h Q q vs τ σ H QV pins s I rs rv k
  unfold rMax2 at q
  split at q
  · obtain ⟨v, u, rfl, r, r'⟩ := reps2 rv
    cases r; cases r'; exact ⟨_, _, rfl, k.val rs (.int _) q⟩
  · exact q.elim
theorem cd_min2 : CallD S (.builtin "min") rMin2 := by
  refine CallD.by fun rst vw => ⟨_, call_min2 (X := S.cx rst) rfl, ?_⟩
  intro ds h Q q vs τ σ H QV pins s I rs rv k
  unfold rMin2 at q
  split at q
  · obtain ⟨v, u, rfl, r, r'⟩ := reps2 rv
    cases r; cases r'; exact ⟨_, _, rfl, k.val rs (.int _) q⟩
  · exact q.elim
@[reducible] def rAbs : List D → DH → RK → Prop
  | [.int i], h, Q => Q (.int (if i < 0 then -i else i)) h
  | _, _, _ => False
theorem cd_abs : CallD S (.builtin "abs") rAbs := by
  refine CallD.by fun rst vw => ⟨_, call_abs (X := S.cx rst), ?_⟩
  intro ds h Q q vs τ σ H QV pins s I rs rv k
  unfold rAbs at q
  split at q
  · obtain ⟨v, rfl, r⟩ := reps1 rv
    cases r; exact ⟨_, rfl, k.val rs (.int _) q⟩
  · exact q.elim
def okTy (T : String) : Bool := T == "int" || T == "bool" || T == "str" || T == "tuple" || T == "list"
def isTy : D → String → Bool
  | .int _, T => decide (T = "int")
  | .bl _, T => decide (T = "bool") || decide (T = "int")
  | .str _, T => decide (T = "str")
  | .tup _, T => decide (T = "tuple")
  | .scr _, T => decide (T = "list")
  | .ref _, T => decide (T = "list")
  | _, _ => false
@[reducible] def rIsi : List D → DH → RK → Prop
  | [.ref p, .ty T], h, Q => okTy T = true ∧ (∃ ds, h p = some (.lst ds)) ∧ Q (.bl (isTy (.ref p) T)) h
  | [.ty _, _], _, _ => False
  | [.scr _, _], _, _ => False
  | [d, .ty T], h, Q => okTy T = true ∧ Q (.bl (isTy d T)) h
  | _, _, _ => False
theorem kit_tab : ∀ T, okTy T = true → kitB "int" T = some (decide (T = "int")) ∧ kitB "bool" T = some (decide (T = "bool") || decide (T = "int")) ∧ kitB "str" T = some (decide (T = "str")) ∧ kitB "tuple" T = some (decide (T = "tuple")) ∧
    kitB "list" T = some (decide (T = "list")) ∧ kitB "NoneType" T = some false := by
  intro T h
  unfold okTy at h
  simp only [Bool.or_eq_true, beq_iff_eq] at h
  rcases h with (((rfl | rfl) | rfl) | rfl) | rfl <;> decide +kernel
theorem cd_isi : CallD S (.builtin "isinstance") rIsi := by
  refine CallD.by fun rst vw => ⟨_, call_isi (X := S.cx rst), ?_⟩
  intro ds h Q q vs τ σ H QV pins s I rs rv k
  unfold rIsi at q
  split at q
  · obtain ⟨o, ⟨es, hp⟩, q⟩ := q
    obtain ⟨v, u, rfl, r, r'⟩ := reps2 rv
    cases r; cases r'
    obtain ⟨ws, f, rr⟩ := RelH.lst rs.ob hp
    exact ⟨_, _, _, _, _, rfl, .ty _, .base (.lst f), kit_ty (kit_tab _ o).2.2.2.2.1, k.val rs (.bl _) q⟩
  · exact q.elim
  · exact q.elim
  · obtain ⟨o, q⟩ := q
    obtain ⟨v, u, rfl, r, r'⟩ := reps2 rv
    cases r'
    obtain ⟨k1, k2, k3, k4, k5, k6⟩ := kit_tab _ o
    cases r with
    | non => exact ⟨_, _, _, _, _, rfl, .ty _, .base .non, kit_ty k6, k.val rs (.bl _) q⟩
    | bl b => exact ⟨_, _, _, _, _, rfl, .ty _, .base (.bl _), kit_ty k2, k.val rs (.bl _) q⟩
    | int i => exact ⟨_, _, _, _, _, rfl, .ty _, .base (.int _), kit_ty k1, k.val rs (.bl _) q⟩
    | str i => exact ⟨_, _, _, _, _, rfl, .ty _, .base (.str _), kit_ty k3, k.val rs (.bl _) q⟩
    | ref p => rename_i n1 n2 n3; exact absurd rfl (n1 _)
    | scr hh => rename_i n1 n2 n3; exact absurd rfl (n3 _)
    | ty n => rename_i n1 n2 n3; exact absurd rfl (n2 _)
    | tup hh rr =>
      rcases hh with (hh | ⟨o, hh⟩) | ⟨o, its, n, l1, l2, _⟩
      · exact ⟨_, _, _, _, _, rfl, .ty _, .base (.tup hh), kit_ty k4, k.val rs (.bl _) q⟩
      · exact ⟨_, _, _, _, _, rfl, .ty _, .fTuple hh, kit_ty k4, k.val rs (.bl _) q⟩
      · exact ⟨_, _, _, _, _, rfl, .ty _, .kTuple l1 l2, kit_ty k4, k.val rs (.bl _) q⟩
  · exact q.elim
end
end DL
namespace DL
open PySem PySem.Spec PyProof.Rows L2

/-! ### calls of the text's own defs -/
abbrev DSp := List D → DH → RK → Prop
def toSp (K : PySem.W.Frag) (sp : DSp) : Sp := fun vs H Q _ => ∃ ds h Qd, Reps K H ds vs ∧ RelH K h H ∧ sp ds h Qd ∧ ∀ d h' v H', Ext H H' → RelH K h' H' → Rep K H' d v → Qd d h' → Q v H'
structure DDef (G : Gc) (x : Str) (k : Nat) (sp : DSp) : Prop where
  ex : ∃ (f : Addr) (fd : FuncData) (ps : List Str), FnOk G.P G.w G.K G.mg G.base CX0 k f fd ps (toSp G.K sp) ∧ G.mg x = some (.ref f) ∧ PySem.W.keepIn G.K (.ref f) = true ∧ Binds G.K fd ps []
/-- a method m of the class at C -/
structure DMeth (G : Gc) (C : Addr) (m : Str) (k : Nat) (sp : DSp) : Prop where
  ex : ∃ (f : Addr) (fd : FuncData) (ps : List Str), FnOk G.P G.w G.K G.mg G.base CX0 k f fd ps (toSp G.K sp) ∧ Meth G.K C m f ∧ Cls G.K C ∧ Binds G.K fd ps []
/-- the class x, made by its __init__ -/
structure DMake (G : Gc) (x : Str) (C : Addr) (k : Nat) (sp : DSp) : Prop where
  ex : ∃ (f : Addr) (fd : FuncData) (ps : List Str), FnOk G.P G.w G.K G.mg G.base CX0 k f fd ps (toSp G.K sp) ∧ Mk G.K C f ∧ G.mg x = some (.ref C) ∧ Binds G.K fd ps []
section
variable {S : Sta} {pos : Pos} {a b c e o : Expr} {ta tb tc te : RE} {es : List Expr} {ua : RA} {x m : Str} {p apos : Pos} {sp : DSp} {k : Nat} {C : Addr}
theorem run_d {r : Rest} {f : Addr} {fd : FuncData} {ps : List Str} (v : Vw S r) (hk : k ≤ S.k) (F : FnOk S.P S.w S.K S.mg S.base CX0 k f fd ps (toSp S.K sp)) (hb : Binds S.K fd ps []) {pins : List (Addr × Obj)} {σ : L2.St} {H : Hp} {s : Shared} {us : List Value} {vs : List V} {ds : List D} {h : DH} {τ : DSt} {Q : RK} {QV : VK}
    (I : Inv (S.cx r) pins σ H s) (rv : Vals vs us) (rs : RelS S.K h τ σ H) (rp : Reps S.K H ds vs) (q : sp ds h Q) (kt : Kont S.K H τ σ Q QV) : wpAny (model S.P S.w) r.A (call (.ref f) us) (EP (S.cx r) pins σ QV) (fun _ _ => False) s := by
  refine run_fn (X := S.cx r) F (v.room.mono hk) hb .nil pass0 I rv ?_
  rw [List.append_nil]
  exact ⟨ds, h, Q, rp, rs.ob, q, fun d h' v' H' e rh rd qd => kt d v' h' H' e (rs.to e rh) rd qd⟩
theorem de_call (F : DDef S.toGc x k sp) (hk : k ≤ S.k) (hg : glbI S.sc x = true) (ha : DA S (e :: es) ua)
    (he : ∀ env, starEach (e :: es) env = (false, eval e env) :: starEach es env) (hpl : ∀ env, (backTo pos (starEach es env)).any (·.1) = false) : DE S (.Call (.Name x p) (e :: es) [] pos) (rCall sp ua) := by
  refine ⟨fun τ h Q q r v σ H QV rs kt pins s I => ?_⟩
  obtain ⟨g1, g2, g3⟩ := glbI_of hg
  obtain ⟨f, fd, ps, F, hm, hkp, hb⟩ := F.ex
  refine wpAny_Call_Name_kw (ld_glob I (gl_of v hg) hm ?_ g2)
  refine PySem.W.callWith_K (h₀ := S.base) I.ok.mod.kin hkp (thn (ha.run τ h _ q r v σ H (fun vs H1 => ∃ ds h1, Ext H H1 ∧ RelS S.K h1 τ σ H1 ∧ Reps S.K H1 ds vs ∧ sp ds h1 Q) rs (fun ds vs h1 H1 e1 rs1 rp1 q1 => ⟨ds, h1, e1, rs1, rp1, q1⟩) pos pins s I) fun us s1 ⟨vs, H1, I1, r1, ds, h1, e1, rs1, rp1, q1⟩ => ⟨I1.kIn, ?_⟩) (he _) (hpl _)
  exact run_d v hk F hb I1 r1 rs1 rp1 q1 (kt.at e1)
theorem de_call0 (F : DDef S.toGc x k sp) (hk : k ≤ S.k) (hg : glbI S.sc x = true) : DE S (.Call (.Name x p) [] [] pos) (fun _ h Q => sp [] h Q) := by
  refine ⟨fun τ h Q q r v σ H QV rs kt pins s I => ?_⟩
  obtain ⟨g1, g2, g3⟩ := glbI_of hg
  obtain ⟨f, fd, ps, F, hm, hkp, hb⟩ := F.ex
  refine wpAny_Call_Name_kw (ld_glob I (gl_of v hg) hm ?_ g2)
  exact PySem.W.callWith_K0 I.kIn hkp (run_d (us := []) v hk F hb I .nil rs .nil q kt)

/-! ### instances -/
def ixF : List Str → Str → Option Nat
  | [], _ => none
  | g :: r, f => if g = f then some 0 else (ixF r f).map (· + 1)
theorem ixF_lookup {K : PySem.W.Frag} {H : Hp} (f : Str) : ∀ {fv : List (Str × V)} {ds : List D}, Reps K H ds (fv.map (·.2)) →
    (match ixF (fv.map (·.1)) f with
      | some i => ∀ d, ds[i]? = some d → ∃ v, fv.lookup f = some v ∧ Rep K H d v
      | none => fv.lookup f = none)
  | [], ds, _ => rfl
  | (g, w) :: r, _, .cons (d := d0) rd rr => by
    have ih := ixF_lookup f (fv := r) rr
    simp only [List.map_cons, ixF]
    by_cases e : g = f
    · subst e
      rw [if_pos rfl]
      intro d hd
      simp only [List.getElem?_cons_zero, Option.some.injEq] at hd
      subst hd
      exact ⟨w, by simp [List.lookup], rd⟩
    · rw [if_neg e]
      have ne : (f == g) = false := by rw [beq_eq_false_iff_ne]; exact fun z => e z.symm
      cases q : ixF (r.map (·.1)) f with
      | none =>
        rw [q] at ih
        simp only [Option.map_none, List.lookup, ne]
        exact ih
      | some i =>
        rw [q] at ih
        simp only [Option.map_some, List.lookup, ne]
        intro d hd
        exact ih d (by simpa using hd)
theorem putF_reps {K : PySem.W.Frag} {H : Hp} (f : Str) {d : D} {w : V} (rw' : Rep K H d w) : ∀ {fv : List (Str × V)} {ds : List D}, Reps K H ds (fv.map (·.2)) →
    (match ixF (fv.map (·.1)) f with
      | some i => (putF f w fv).map (·.1) = fv.map (·.1) ∧ Reps K H (ds.set i d) ((putF f w fv).map (·.2))
      | none => (putF f w fv).map (·.1) = fv.map (·.1) ++ [f] ∧ Reps K H (ds ++ [d]) ((putF f w fv).map (·.2)))
  | [], _, .nil => ⟨rfl, .cons rw' .nil⟩
  | (g, u) :: r, _, .cons (d := d0) rd rr => by
    have ih := putF_reps f rw' (fv := r) rr
    simp only [List.map_cons, ixF, putF]
    by_cases e : g = f
    · subst e
      rw [if_pos rfl, if_pos rfl]
      exact ⟨rfl, .cons rw' rr⟩
    · rw [if_neg e, if_neg e]
      cases q : ixF (r.map (·.1)) f with
      | none =>
        rw [q] at ih
        simp only [Option.map_none, List.map_cons, List.cons_append, ih.1]
        exact ⟨trivial, .cons rd ih.2⟩
      | some i =>
        rw [q] at ih
        simp only [Option.map_some, List.map_cons, ih.1]
        exact ⟨trivial, .cons rd ih.2⟩
structure FldOk (K : PySem.W.Frag) (C : Addr) (f : Str) : Prop where
  cl : Cls K C
  na : NoAttr K C f
theorem RelH.ins {K : PySem.W.Frag} {h : DH} {H : Hp} (rs : RelH K h H) {p C : Addr} {ns : List Str} {ds : List D} (hp : h p = some (.ins C ns ds)) : ∃ dx fv, H p = some (.ins C dx fv) ∧ fv.map (·.1) = ns ∧ Reps K H ds (fv.map (·.2)) := rs p _ hp
theorem RelH.setIns {K : PySem.W.Frag} {h : DH} {H : Hp} (rs : RelH K h H) {p C dx : Addr} {o : DO} {fv fw : List (Str × V)} {ns : List Str} {ds : List D} (hp : h p = some o) (hv : H p = some (.ins C dx fv)) (n : fw.map (·.1) = ns) (r : Reps K H ds (fw.map (·.2))) :
    RelH K (dupd h p (.ins C ns ds)) (upd H p (.ins C dx fw)) := rs.write hp (.ins hv) ⟨dx, fw, upd_same, n, r.ext (.ins hv)⟩
/-- e.f -/
@[reducible] def rFld (K : PySem.W.Frag) (te : RE) (f : Str) : RE := fun τ h Q => te τ h fun d h1 => match d with
  | .ref p => ∃ C ns ds, h1 p = some (.ins C ns ds) ∧ FldOk K C f ∧ ∃ i, ixF ns f = some i ∧ ∃ v, ds[i]? = some v ∧ Q v h1
  | _ => False
theorem de_fld {f : Str} (he : DE S e te) (hb : ∀ env, attributeBase e f env (eval e env) = eval e env) : DE S (.Attribute e f pos) (rFld S.K te f) := by
  refine ⟨fun τ h Q q r v σ H QV rs kt pins s I => ?_⟩
  refine (pe_fld (X := S.cx r) (peTop (e := e)) (hb _)).run pins s σ H QV I ?_
  refine he.run τ h _ q r v σ H _ rs fun d v1 h1 H1 e1 rs1 rp1 q1 => ?_
  cases d <;> try exact q1.elim
  cases rp1
  obtain ⟨C, ns, ds, hp, ok, i, hi, w, hd, q1⟩ := q1
  obtain ⟨dx, fv, hv, rfl, rr⟩ := RelH.ins rs1.ob hp
  have := ixF_lookup f rr
  rw [hi] at this
  obtain ⟨u, hu, ru⟩ := this w hd
  exact ⟨_, C, dx, fv, u, rfl, hv, ok.cl, ok.na, hu, kt _ _ _ _ e1 rs1 ru q1⟩
/-- what stands in an instance behind a store -/
def putD (ns : List Str) (f : Str) (ds : List D) (d : D) : List D := match ixF ns f with
  | some i => ds.set i d
  | none => ds ++ [d]
def putN (ns : List Str) (f : Str) : List Str := match ixF ns f with
  | some _ => ns
  | none => ns ++ [f]
theorem putF_rel {K : PySem.W.Frag} {H : Hp} (f : Str) {d : D} {w : V} (rw' : Rep K H d w) {fv : List (Str × V)} {ds : List D} (r : Reps K H ds (fv.map (·.2))) :
    (putF f w fv).map (·.1) = putN (fv.map (·.1)) f ∧ Reps K H (putD (fv.map (·.1)) f ds d) ((putF f w fv).map (·.2)) := by
  have := putF_reps f rw' r
  unfold putD putN
  cases q : ixF (fv.map (·.1)) f with
  | none => rw [q] at this; exact this
  | some i => rw [q] at this; exact this
/-- e.f = value -/
@[reducible] def rSetF (K : PySem.W.Frag) (tv te : RE) (f : Str) : RS := fun D τ h => tv τ h fun y h1 => te τ h1 fun d h2 => match d with
  | .ref p => ∃ C ns ds, h2 p = some (.ins C ns ds) ∧ FldOk K C f ∧ ds.length < 1000 ∧ D.nx τ (dupd h2 p (.ins C (putN ns f) (putD ns f ds y)))
  | _ => False
theorem ds_setF {f : Str} {val : Expr} {tv : RE} {pos' : Pos} (he : DE S e te) (hv : DE S val tv) (hs : ∀ env, swapsWith val (some (.Attribute e f pos')) pos.line env = pure false) : DS S (.Assign [.Attribute e f pos'] val pos) (rSetF S.K tv te f) := by
  refine ⟨fun D τ h q r v σ H DV hl rs kt pins s I => ?_⟩
  refine (ps_fld (X := S.cx r) (peTop (e := e)) (peTop (e := val)) (hs _)).run pins s σ H DV I ?_
  refine hv.run τ h _ q r v σ H _ rs fun d0 v0 h0 H0 e0 rs0 rp0 q0 => ?_
  refine he.run τ h0 _ q0 r v σ H0 _ rs0 fun d v1 h1 H1 e1 rs1 rp1 q1 => ?_
  cases d <;> try exact q1.elim
  cases rp1
  obtain ⟨C, ns, ds, hp, ok, hz, q1⟩ := q1
  obtain ⟨dx, fv, hvv, rfl, rr⟩ := RelH.ins rs1.ob hp
  have hfl : fv.length = ds.length := by have := rr.length; rw [List.length_map] at this; exact this.symm
  obtain ⟨p1, p2⟩ := putF_rel f (rp0.ext e1) rr
  refine ⟨_, C, dx, fv, rfl, hvv, ok.cl, ok.na, by rw [hfl]; exact hz, ?_⟩
  exact kt.nx _ _ _ _ ((e0.trans e1).trans (.ins hvv)) (rs1.to (.ins hvv) (RelH.setIns rs1.ob hp hvv p1 p2)) hl q1
/-- e.f op= value -/
@[reducible] def rAugF (K : PySem.W.Frag) (te tv : RE) (ro : D → D → DH → RK → Prop) (f : Str) : RS := fun D τ h => te τ h fun d h1 => match d with
  | .ref p => ∃ C ns ds, h1 p = some (.ins C ns ds) ∧ FldOk K C f ∧ ∃ i, ixF ns f = some i ∧ ∃ v, ds[i]? = some v ∧
    tv τ h1 fun w h2 => ro v w h2 fun z h3 => ∃ ns' ds', h3 p = some (.ins C ns' ds') ∧ ds'.length < 1000 ∧ D.nx τ (dupd h3 p (.ins C (putN ns' f) (putD ns' f ds' z)))
  | _ => False
theorem ds_augF {op : Operator} {ro : D → D → DH → RK → Prop} {f : Str} {val : Expr} {tv : RE} {tpos : Pos} (ho : OpD S (inplaceOp op) ro) (he : DE S e te) (hv : DE S val tv) : DS S (.AugAssign (.Attribute e f tpos) op val pos) (rAugF S.K te tv ro f) := by
  refine ⟨fun D τ h q r v σ H DV hl rs kt pins s I => ?_⟩
  refine wpAny_AugAssign_AttributeAny (thn ((peTop (X := S.cx r) (e := e)).run pins s σ H _ I (he.run τ h _ q r v σ H (fun x H1 => ∃ d h1, Ext H H1 ∧ RelS S.K h1 τ σ H1 ∧ Rep S.K H1 d x ∧ (match d with
    | .ref p => ∃ C ns ds, h1 p = some (.ins C ns ds) ∧ FldOk S.K C f ∧ ∃ i, ixF ns f = some i ∧ ∃ v, ds[i]? = some v ∧
      tv τ h1 fun w h2 => ro v w h2 fun z h3 => ∃ ns' ds', h3 p = some (.ins C ns' ds') ∧ ds'.length < 1000 ∧ D.nx τ (dupd h3 p (.ins C (putN ns' f) (putD ns' f ds' z)))
    | _ => False)) rs fun d v1 h1 H1 e1 rs1 rp1 q1 => ⟨d, h1, e1, rs1, rp1, q1⟩)) fun ov s1 ⟨x, H1, I1, rx, d, h1, e1, rs1, rp1, q1⟩ => ?_)
  cases d <;> try exact q1.elim
  rename_i p
  cases rp1
  obtain ⟨C, ns, ds, hp, ok, i, hi, w, hd, q1⟩ := q1
  obtain rfl : ov = Value.ref p := rx
  obtain ⟨dx, fv, hvv, rfl, rr⟩ := RelH.ins rs1.ob hp
  have hlk := ixF_lookup f rr
  rw [hi] at hlk
  obtain ⟨u, hu, ru⟩ := hlk w hd
  refine getattr_ok I1 hvv ok.cl ok.na hu fun u2 s2 I2 ru2 => ?_
  refine thn ((peTop (X := S.cx r) (e := val)).run pins s2 σ H1 _ I2 (hv.run τ h1 _ q1 r v σ H1 (fun y H2 => ∃ dy h2, Ext H1 H2 ∧ RelS S.K h2 τ σ H2 ∧ Rep S.K H2 dy y ∧ ro w dy h2 fun z h3 => ∃ ns' ds', h3 p = some (.ins C ns' ds') ∧ ds'.length < 1000 ∧ D.nx τ (dupd h3 p (.ins C (putN ns' f) (putD ns' f ds' z))))
    rs1 fun dy y h2 H2 e2 rs2 rp2 q2 => ⟨dy, h2, e2, rs2, rp2, q2⟩)) fun w3 s3 ⟨y, H2, I3, ry, dy, h2, e2, rs2, rp2, q2⟩ => ?_
  refine thn (ho r v w dy h2 _ q2 u y τ σ H2 (fun z H3 => ∃ dz h3, Ext H2 H3 ∧ RelS S.K h3 τ σ H3 ∧ Rep S.K H3 dz z ∧ ∃ ns' ds', h3 p = some (.ins C ns' ds') ∧ ds'.length < 1000 ∧ D.nx τ (dupd h3 p (.ins C (putN ns' f) (putD ns' f ds' dz))))
    rs2 (ru.ext e2) rp2 (fun dz z h3 H3 e3 rs3 rp3 q3 => ⟨dz, h3, e3, rs3, rp3, q3⟩) pins s3 u2 w3 I3 ru2 ry) fun w4 s4 ⟨z, H3, I4, rz, dz, h3, e3, rs3, rp3, ns', ds', hp3, hz, q3⟩ => ?_
  obtain ⟨dx', fv', hvv', rfl, rr'⟩ := RelH.ins rs3.ob hp3
  have hfl : fv'.length = ds'.length := by have := rr'.length; rw [List.length_map] at this; exact this.symm
  obtain ⟨p1, p2⟩ := putF_rel f rp3 rr'
  exact setattr_ok I4 hvv' ok.cl ok.na (by rw [hfl]; exact hz) rz fun s5 I5 => ⟨σ, _, I5, kt.nx _ _ _ _ (((e1.trans e2).trans e3).trans (.ins hvv')) (rs3.to (.ins hvv') (RelH.setIns rs3.ob hp3 hvv' p1 p2)) hl q3⟩
/-- o.m(..) -/
@[reducible] def rMeth (C : Addr) (m : Str) (sp : DSp) (te : RE) (ua : RA) : RE := fun τ h Q => te τ h fun d h1 => match d with
  | .ref p => ∃ ns ds, h1 p = some (.ins C ns ds) ∧ ixF ns m = none ∧ ua τ h1 fun as h2 => sp (.ref p :: as) h2 Q
  | _ => False
theorem de_meth {pl : Env → Sem Bool} (F : DMeth S.toGc C m k sp) (hk : k ≤ S.k) (ho : DE S o te) (ha : DA S (e :: es) ua)
    (he : ∀ env, starEach (e :: es) env = (false, eval e env) :: starEach es env) (hst : ∀ env, (backTo pos (starEach es env)).any (·.1) = false)
    (ht : ∀ env, eval (.Call (.Attribute o m apos) (e :: es) [] pos) env = (do
      let ov ← eval o env
      standAt apos.atName
      let (f, first) ← holding [ov] (getMethod ov m (pl env))
      callWith pos f first (backTo pos (starEach (e :: es) env)) (backToKw pos (keywordEach [] env)))) :
    DE S (.Call (.Attribute o m apos) (e :: es) [] pos) (rMeth C m sp te ua) := by
  refine ⟨fun τ h Q q r v σ H QV rs kt pins s I => ?_⟩
  obtain ⟨f, fd, ps, F, hm, hc, hb⟩ := F.ex
  refine PySem.W.methodCall_KW (pl := pl r.env) (thn ((peTop (X := S.cx r) (e := o)).run pins s σ H _ I (ho.run τ h _ q r v σ H (fun v1 H1 => ∃ p dx fv h1, v1 = .ref p ∧ H1 p = some (.ins C dx fv) ∧ fv.lookup m = none ∧ Ext H H1 ∧ RelS S.K h1 τ σ H1 ∧ ua τ h1 fun as h2 => sp (.ref p :: as) h2 Q) rs ?_)) fun u s1 ⟨x, H1, I1, rx, p, dx, fv, h1, ex, ea, l, e1, rs1, q1⟩ => ?_) (ht _)
  · intro d v1 h1 H1 e1 rs1 rp1 q1
    cases d <;> try exact q1.elim
    cases rp1
    obtain ⟨ns, ds, hp, hn, q1⟩ := q1
    obtain ⟨dx, fv, hvv, rfl, rr⟩ := RelH.ins rs1.ob hp
    have hl := ixF_lookup m rr
    rw [hn] at hl
    exact ⟨_, dx, fv, h1, rfl, hvv, hl, e1, rs1, q1⟩
  · subst ex
    obtain rfl : u = Value.ref p := rx
    refine getmeth_ok I1 ea hc hm l ?_
    refine PySem.W.callWith_K (first := [.ref p]) (h₀ := S.base) I.ok.mod.kin hm.kp (thn (ha.run τ h1 _ q1 r v σ H1 (fun vs H2 => ∃ as h2, Ext H1 H2 ∧ RelS S.K h2 τ σ H2 ∧ Reps S.K H2 as vs ∧ sp (.ref p :: as) h2 Q) rs1 (fun as vs h2 H2 e2 rs2 rp2 q2 => ⟨as, h2, e2, rs2, rp2, q2⟩) pos pins s1 I1) fun us s2 ⟨vs, H2, I2, r2, as, h2, e2, rs2, rp2, q2⟩ => ⟨I2.kIn, ?_⟩) (he _) (hst _)
    exact run_d (us := .ref p :: us) (vs := .ref p :: vs) v hk F hb I2 (.cons rfl r2) rs2 (.cons (.ref p) rp2) q2 (kt.at (e1.trans e2))
theorem de_meth0 {pl : Env → Sem Bool} (F : DMeth S.toGc C m k sp) (hk : k ≤ S.k) (ho : DE S o te)
    (ht : ∀ env, eval (.Call (.Attribute o m apos) [] [] pos) env = (do
      let ov ← eval o env
      standAt apos.atName
      let (f, first) ← holding [ov] (getMethod ov m (pl env))
      callWith pos f first (backTo pos (starEach [] env)) (backToKw pos (keywordEach [] env)))) :
    DE S (.Call (.Attribute o m apos) [] [] pos) (rMeth C m sp te rNil) := by
  refine ⟨fun τ h Q q r v σ H QV rs kt pins s I => ?_⟩
  obtain ⟨f, fd, ps, F, hm, hc, hb⟩ := F.ex
  refine PySem.W.methodCall_KW (pl := pl r.env) (thn ((peTop (X := S.cx r) (e := o)).run pins s σ H _ I (ho.run τ h _ q r v σ H (fun v1 H1 => ∃ p dx fv h1, v1 = .ref p ∧ H1 p = some (.ins C dx fv) ∧ fv.lookup m = none ∧ Ext H H1 ∧ RelS S.K h1 τ σ H1 ∧ sp [.ref p] h1 Q) rs ?_)) fun u s1 ⟨x, H1, I1, rx, p, dx, fv, h1, ex, ea, l, e1, rs1, q1⟩ => ?_) (ht _)
  · intro d v1 h1 H1 e1 rs1 rp1 q1
    cases d <;> try exact q1.elim
    cases rp1
    obtain ⟨ns, ds, hp, hn, q1⟩ := q1
    obtain ⟨dx, fv, hvv, rfl, rr⟩ := RelH.ins rs1.ob hp
    have hl := ixF_lookup m rr
    rw [hn] at hl
    exact ⟨_, dx, fv, h1, rfl, hvv, hl, e1, rs1, q1⟩
  · subst ex
    obtain rfl : u = Value.ref p := rx
    refine getmeth_ok I1 ea hc hm l ?_
    exact PySem.W.callWith_K0 (first := [.ref p]) I1.kIn hm.kp (run_d (us := [.ref p]) (vs := [.ref p]) v hk F hb I1 (.cons rfl .nil) rs1 (.cons (.ref p) .nil) q1 (kt.at e1))
/-- C(..) -/
@[reducible] def rMake (C : Addr) (sp : DSp) (ua : RA) : RE := fun τ h Q => ua τ h fun as h1 => ∀ x, h1 x = none → sp (.ref x :: as) (dupd h1 x (.ins C [] [])) fun d h2 => d = .non ∧ Q (.ref x) h2
theorem make_d {r : Rest} {f : Addr} {fd : FuncData} {ps : List Str} (v : Vw S r) (hk : k + 1 ≤ S.k) (M : Mk S.K C f) (F : FnOk S.P S.w S.K S.mg S.base CX0 k f fd ps (toSp S.K sp)) (hb : Binds S.K fd ps []) {pins : List (Addr × Obj)} {σ : L2.St} {H : Hp} {s : Shared} {us : List Value} {vs : List V} {ds : List D} {h : DH} {τ : DSt} {Q : RK} {QV : VK}
    (I : Inv (S.cx r) pins σ H s) (rv : Vals vs us) (rs : RelS S.K h τ σ H) (rp : Reps S.K H ds vs) (q : ∀ x, h x = none → sp (.ref x :: ds) (dupd h x (.ins C [] [])) fun d h2 => d = .non ∧ Q (.ref x) h2) (kt : Kont S.K H τ σ Q QV) : wpAny (model S.P S.w) r.A (call (.ref C) us) (EP (S.cx r) pins σ QV) (fun _ _ => False) s := by
  refine run_make (X := S.cx r) M F (v.room.mono hk) hb .nil pass0 I rv fun x dx nx nd ne => ?_
  rw [List.append_nil]
  have e1 : Ext H (upd H dx (.own x)) := .new nd
  have nx' : (upd H dx (.own x)) x = none := by rw [upd_ne (Ne.symm ne)]; exact nx
  have e2 : Ext (upd H dx (.own x)) (upd (upd H dx (.own x)) x (.ins C dx [])) := .new nx'
  have rh : RelH S.K (dupd h x (.ins C [] [])) (upd (upd H dx (.own x)) x (.ins C dx [])) := (rs.ob.new nd).newO nx' ⟨dx, [], upd_same, rfl, .nil⟩
  refine ⟨.ref x :: ds, _, _, .cons (.ref x) (rp.ext (e1.trans e2)), rh, q x (rs.ob.free nx), fun d h' v' H' e rh' rd qd => ?_⟩
  obtain ⟨rfl, qd⟩ := qd
  cases rd
  exact ⟨rfl, kt _ _ h' H' (e1.trans (e2.trans e)) (rs.to (e1.trans (e2.trans e)) rh') (.ref x) qd⟩
theorem de_make (F : DMake S.toGc x C k sp) (hk : k + 1 ≤ S.k) (hg : glbI S.sc x = true) (ha : DA S (e :: es) ua)
    (he : ∀ env, starEach (e :: es) env = (false, eval e env) :: starEach es env) (hpl : ∀ env, (backTo pos (starEach es env)).any (·.1) = false) : DE S (.Call (.Name x p) (e :: es) [] pos) (rMake C sp ua) := by
  refine ⟨fun τ h Q q r v σ H QV rs kt pins s I => ?_⟩
  obtain ⟨g1, g2, g3⟩ := glbI_of hg
  obtain ⟨f, fd, ps, F, M, hm, hb⟩ := F.ex
  refine wpAny_Call_Name_kw (ld_glob I (gl_of v hg) hm ?_ g2)
  refine PySem.W.callWith_K (h₀ := S.base) I.ok.mod.kin M.kp (thn (ha.run τ h _ q r v σ H (fun vs H1 => ∃ ds h1, Ext H H1 ∧ RelS S.K h1 τ σ H1 ∧ Reps S.K H1 ds vs ∧ ∀ x, h1 x = none → sp (.ref x :: ds) (dupd h1 x (.ins C [] [])) fun d h2 => d = .non ∧ Q (.ref x) h2) rs (fun ds vs h1 H1 e1 rs1 rp1 q1 => ⟨ds, h1, e1, rs1, rp1, q1⟩) pos pins s I) fun us s1 ⟨vs, H1, I1, r1, ds, h1, e1, rs1, rp1, q1⟩ => ⟨I1.kIn, ?_⟩) (he _) (hpl _)
  exact make_d v hk M F hb I1 r1 rs1 rp1 q1 (kt.at e1)
theorem de_make0 (F : DMake S.toGc x C k sp) (hk : k + 1 ≤ S.k) (hg : glbI S.sc x = true) : DE S (.Call (.Name x p) [] [] pos) (rMake C sp rNil) := by
  refine ⟨fun τ h Q q r v σ H QV rs kt pins s I => ?_⟩
  obtain ⟨g1, g2, g3⟩ := glbI_of hg
  obtain ⟨f, fd, ps, F, M, hm, hb⟩ := F.ex
  refine wpAny_Call_Name_kw (ld_glob I (gl_of v hg) hm ?_ g2)
  exact PySem.W.callWith_K0 I.kIn M.kp (make_d (us := []) v hk M F hb I .nil rs .nil q kt)

/-! ### methods of built-in types -/
def MtD (S : Sta) (T id : String) (rr : D → List D → DH → RK → Prop) : Prop :=
  ∀ rst, Vw S rst → ∃ rv : V → List V → Hp → VK → Prop, MtR (S.cx rst) id rv ∧
    ∀ d as h Q, rr d as h Q → ∀ x vs τ σ H QV, RelS S.K h τ σ H → Rep S.K H d x → Reps S.K H as vs → Kont S.K H τ σ Q QV → rv x vs H QV
/-- the receiver is of that type -/
@[reducible] def tyD (T : String) : D → DH → Prop
  | .str _, _ => T = "str"
  | .ref p, h => T = "list" ∧ ∃ ds, h p = some (.lst ds)
  | _, _ => False
theorem tyD_conv {T : String} {d : D} {h : DH} {x : V} {τ : DSt} {σ : L2.St} {H : Hp} (rs : RelS S.K h τ σ H) (r : Rep S.K H d x) (t : tyD T d h) : tyV S.K T x H := by
  cases r <;> try exact t.elim
  · exact t
  · obtain ⟨t, ds, hp⟩ := t
    obtain ⟨vs, f, _⟩ := RelH.lst rs.ob hp
    exact .inl ⟨t, vs, SqL.of f⟩
@[reducible] def rBM (T : String) (rr : D → List D → DH → RK → Prop) (to : RE) (ua : RA) : RE := fun τ h Q => to τ h fun d h1 => tyD T d h1 ∧ ua τ h1 fun as h2 => rr d as h2 Q
theorem de_bm {T id : String} {rr : D → List D → DH → RK → Prop} {to : RE} {cpos : Pos} (pa : PlainAttrs T) (slot : Slot T m id) (hty : typeOf (.builtin id) = pure (.type "method_descriptor")) (hm : MtD S T id rr) (ho : DE S o to) (ha : DA S (e :: es) ua)
    (hbase : ∀ env, attributeBase o m env (eval o env) = eval o env)
    (hfew : ∀ env, ((backTo cpos (starEach (e :: es) env)).all (fun x => !x.1) && (backToKw cpos (keywordEach [] env)).all (fun x => x.1.isSome)
      && decide ((e :: es).length + ([] : List Keyword).length + (if ([] : List Keyword).isEmpty then 0 else 1) < 30)) = true)
    (hline : (apos.endLine == cpos.line) = true) (hs : ∀ env, starEach (e :: es) env = (false, eval e env) :: starEach es env) (hplain : ∀ env, (backTo cpos (starEach es env)).any (·.1) = false) :
    DE S (.Call (.Attribute o m apos) (e :: es) [] cpos) (rBM T rr to ua) := by
  refine ⟨fun τ h Q q r v σ H QV rs kt pins s I => ?_⟩
  obtain ⟨rv, hm, hc⟩ := hm r v
  refine (pe_bm (X := S.cx r) pa slot hty (r := rv) hm (peTop (e := o)) (paTop (es := e :: es)) (hbase _) (hfew _) hline (hs _) (hplain _)).run pins s σ H QV I ?_
  refine ho.run τ h _ q r v σ H _ rs fun d v1 h1 H1 e1 rs1 rp1 q1 => ⟨tyD_conv rs1 rp1 q1.1, ?_⟩
  exact ha.run τ h1 _ q1.2 r v σ H1 _ rs1 fun as vs h2 H2 e2 rs2 rp2 q2 => hc d as h2 Q q2 v1 vs τ σ H2 QV rs2 (rp1.ext e2) rp2 (kt.at (e1.trans e2))
theorem de_bm0 {T id : String} {rr : D → List D → DH → RK → Prop} {to : RE} {cpos : Pos} (pa : PlainAttrs T) (slot : Slot T m id) (hty : typeOf (.builtin id) = pure (.type "method_descriptor")) (hm : MtD S T id rr) (ho : DE S o to)
    (hbase : ∀ env, attributeBase o m env (eval o env) = eval o env) (hline : (apos.endLine == cpos.line) = true) : DE S (.Call (.Attribute o m apos) [] [] cpos) (rBM T rr to rNil) := by
  refine ⟨fun τ h Q q r v σ H QV rs kt pins s I => ?_⟩
  obtain ⟨rv, hm, hc⟩ := hm r v
  refine (pe_bm0 (X := S.cx r) pa slot hty (r := rv) hm (peTop (e := o)) (hbase _) hline).run pins s σ H QV I ?_
  exact ho.run τ h _ q r v σ H _ rs fun d v1 h1 H1 e1 rs1 rp1 q1 => ⟨tyD_conv rs1 rp1 q1.1, hc d [] h1 Q q1.2 v1 [] τ σ H1 QV rs1 rp1 .nil (kt.at e1)⟩
theorem Kont.setLst {K : PySem.W.Frag} {H : Hp} {τ : DSt} {σ : L2.St} {Q : RK} {QV : VK} {h : DH} (k : Kont K H τ σ Q QV) (rs : RelS K h τ σ H) {p : Addr} {ds es : List D} {vs us : List V} (hp : h p = some (.lst ds)) (hv : H p = some (.lst vs)) (r : Reps K H es us) {d : D} {v : V} (rd : Rep K H d v)
    (q : Q d (dupd h p (.lst es))) : QV v (upd H p (.lst us)) :=
  k d v _ _ (.lst hv) (rs.to (.lst hv) (RelH.setLst rs.ob hp hv r)) (rd.ext (.lst hv)) q
@[reducible] def rAppend : D → List D → DH → RK → Prop
  | .ref p, [d], h, Q => ∃ ds, h p = some (.lst ds) ∧ ds.length < sizeLine ∧ Q .non (dupd h p (.lst (ds ++ [d])))
  | _, _, _, _ => False
theorem md_append : MtD S "list" "list.append" rAppend := by
  refine fun rst vw => ⟨_, mt_append (X := S.cx rst), ?_⟩
  intro d as h Q q x vs τ σ H QV rs rx ra k
  unfold rAppend at q
  split at q
  · obtain ⟨ds, hp, hz, q⟩ := q
    cases rx
    obtain ⟨v, rfl, rv⟩ := reps1 ra
    obtain ⟨ws, f, rr⟩ := RelH.lst rs.ob hp
    exact ⟨_, ws, v, rfl, rfl, f, by rw [← rr.length]; exact hz, k.setLst rs hp f (rr.append (.one rv)) .non q⟩
  · exact q.elim
@[reducible] def rExtend : D → List D → DH → RK → Prop
  | .ref p, [.ref b], h, Q => ∃ ds, h p = some (.lst ds) ∧ ∃ es, h b = some (.lst es) ∧ ds.length + es.length ≤ sizeLine ∧ Q .non (dupd h p (.lst (ds ++ es)))
  | _, _, _, _ => False
theorem md_extend : MtD S "list" "list.extend" rExtend := by
  refine fun rst vw => ⟨_, mt_extend (X := S.cx rst), ?_⟩
  intro d as h Q q x vs τ σ H QV rs rx ra k
  unfold rExtend at q
  split at q
  · obtain ⟨ds, hp, es, hb, hz, q⟩ := q
    cases rx
    obtain ⟨v, rfl, rv⟩ := reps1 ra
    cases rv
    obtain ⟨ws, f, rr⟩ := RelH.lst rs.ob hp
    obtain ⟨us, g, r2⟩ := RelH.lst rs.ob hb
    exact ⟨_, _, ws, us, rfl, rfl, f, g, by rw [← rr.length, ← r2.length]; exact hz, k.setLst rs hp f (rr.append r2) .non q⟩
  · exact q.elim
@[reducible] def rPop : D → List D → DH → RK → Prop
  | .ref p, [], h, Q => ∃ ds, h p = some (.lst ds) ∧ ∃ d, ds[ds.length - 1]? = some d ∧ Q d (dupd h p (.lst ds.dropLast))
  | _, _, _, _ => False
theorem md_pop : MtD S "list" "list.pop" rPop := by
  refine fun rst vw => ⟨_, mt_pop (X := S.cx rst), ?_⟩
  intro d as h Q q x vs τ σ H QV rs rx ra k
  unfold rPop at q
  split at q
  · obtain ⟨ds, hp, d, hd, q⟩ := q
    cases rx
    cases ra
    obtain ⟨ws, f, rr⟩ := RelH.lst rs.ob hp
    rw [rr.length] at hd
    obtain ⟨v, hv, rv⟩ := rr.get hd
    exact ⟨_, ws, v, rfl, rfl, f, hv, k.setLst rs hp f rr.dropLast rv q⟩
  · exact q.elim
@[reducible] def rPopAt : D → List D → DH → RK → Prop
  | .ref p, [.int i], h, Q => ∃ ds, h p = some (.lst ds) ∧ -(2 ^ 63) ≤ i ∧ i < 2 ^ 63 ∧ ∃ k, seqIndex? i ds.length = some k ∧ ∃ d, ds[k]? = some d ∧ Q d (dupd h p (.lst (ds.eraseIdx k)))
  | _, _, _, _ => False
theorem md_popAt : MtD S "list" "list.pop" rPopAt := by
  refine fun rst vw => ⟨_, mt_popAt (X := S.cx rst), ?_⟩
  intro d as h Q q x vs τ σ H QV rs rx ra k
  unfold rPopAt at q
  split at q
  · obtain ⟨ds, hp, h1, h2, j, hj, d, hd, q⟩ := q
    cases rx
    obtain ⟨v, rfl, rv⟩ := reps1 ra
    cases rv
    obtain ⟨ws, f, rr⟩ := RelH.lst rs.ob hp
    rw [rr.length] at hj
    obtain ⟨v, hv, rv⟩ := rr.get hd
    exact ⟨_, ws, _, j, v, rfl, rfl, f, h1, h2, hj, hv, k.setLst rs hp f (rr.eraseIdx j) rv q⟩
  · exact q.elim
end
end DL
namespace DL
open PySem PySem.Spec PyProof.Rows L2

/-! ### targets -/
abbrev RG := D → DSt → DH → (DSt → DH → Prop) → Prop
abbrev RGs := List D → DSt → DH → (DSt → DH → Prop) → Prop
def gTop (X : Cx) (tg : Expr) : TG := fun v σ H Q => ∀ pins s u, Inv X pins σ H s → RelV v u → wpAny (model X.prog X.w) X.A (assign tg X.env u) (fun _ s' => ∃ σ' H', Inv X pins σ' H' s' ∧ Q σ' H') X.xe s
theorem pgTop {X : Cx} {tg : Expr} : PG X tg (gTop X tg) := ⟨fun pins s _ _ _ u _ I r h => h pins s u I r⟩
def KontG (K : PySem.W.Frag) (H0 : Hp) (σ0 : L2.St) (ws : List Nat) (Q : DSt → DH → Prop) (QV : L2.St → Hp → Prop) : Prop :=
  ∀ τ h σ H, Ext H0 H → RelS K h τ σ H → σ.length = σ0.length → (∀ j, j ∉ ws → σ[j]? = σ0[j]?) → Q τ h → QV σ H
/-- ws: the slots that it may store -/
structure DG (S : Sta) (tg : Expr) (ws : List Nat) (t : RG) : Prop where
  run : ∀ d τ h Q, t d τ h Q → ∀ r, Vw S r → ∀ v σ H QV, σ.length = S.N.length → RelS S.K h τ σ H → Rep S.K H d v → KontG S.K H σ ws Q QV → gTop (S.cx r) tg v σ H QV
structure DGs (S : Sta) (ts : List Expr) (ws : List Nat) (t : RGs) : Prop where
  run : ∀ ds τ h Q, t ds τ h Q → ∀ r, Vw S r → ∀ vs σ H QV, σ.length = S.N.length → RelS S.K h τ σ H → Reps S.K H ds vs → KontG S.K H σ ws Q QV → ∀ pins s us, Inv (S.cx r) pins σ H s → Vals vs us →
    wpAny (model S.P S.w) r.A (assignInOrder ((assignEach ts r.env).map (·.2)) us) (fun _ s' => ∃ σ' H', Inv (S.cx r) pins σ' H' s' ∧ QV σ' H') (fun _ _ => False) s
@[reducible] def gNm (i : Nat) : RG := fun d τ h Q => Q (sto τ i (some d)) h
section
variable {S : Sta} {pos : Pos} {a b c e o : Expr} {ta tb tc te : RE} {es : List Expr} {ua : RA} {x : Str}
theorem locI_of {N : List Str} {sc : Scope} {fn : Str → Bool} {i : Nat} (h : locI N sc fn i = true) (hN : N[i]? = some x) : (sc.names.lookup x = some .local) ∨ (sc.names.lookup x = some .cell ∧ fn x = true) := by
  unfold locI at h
  rw [hN] at h
  simp only at h
  split at h
  · rename_i e; exact .inl e
  · rename_i e; exact .inr ⟨e, h⟩
  · cases h
theorem dg_name {i : Nat} (hl : locI S.N S.sc S.fn i = true) (hN : S.N[i]? = some x) : DG S (.Name x pos) [i] (gNm i) := by
  refine ⟨fun d τ h Q q r v v1 σ H QV hlen rs rp kt pins s u I ru => ?_⟩
  have hl' := locI_of hl hN
  rw [← v.sc] at hl'
  have hi : i < σ.length := by rw [hlen]; exact (List.getElem?_eq_some_iff.mp hN).1
  refine (pg_name (X := S.cx r) v.nd hN (hl'.elim .inl fun z => .inr z.1) (hl'.elim .inr fun z => .inl z.2)).run pins s σ H v1 u QV I ru ?_
  refine kt _ _ _ _ (.refl _) (rs.set hi rp) (by simp) (fun j hj => ?_) (by rw [← sto_eq]; exact q)
  have : i ≠ j := fun z => hj (by simp [z])
  rw [List.getElem?_set_ne this]
@[reducible] def gsNil : RGs := fun ds τ h Q => match ds with
  | [] => Q τ h
  | _ => False
@[reducible] def gsCons (t : RG) (u : RGs) : RGs := fun ds τ h Q => match ds with
  | d :: r => t d τ h fun τ' h' => u r τ' h' Q
  | [] => False
theorem dgs_nil : DGs S [] [] gsNil := by
  refine ⟨fun ds τ h Q q r v vs σ H QV hl rs rp kt pins s us I ru => ?_⟩
  cases rp with
  | nil =>
    cases ru
    exact pgs_nil.run pins s σ H [] [] QV I .nil ⟨rfl, kt _ _ _ _ (.refl _) rs rfl (fun _ _ => rfl) q⟩
  | cons _ _ => exact q.elim
theorem dgs_cons {ws wr : List Nat} {t : RG} {u : RGs} (h1 : DG S e ws t) (h2 : DGs S es wr u) (hs : ∀ env, (assignEach (e :: es) env).map (·.2) = assign e env :: (assignEach es env).map (·.2)) : DGs S (e :: es) (ws ++ wr) (gsCons t u) := by
  refine ⟨fun ds τ h Q q r v vs σ H QV hl rs rp kt pins s us I ru => ?_⟩
  cases rp with
  | nil => exact q.elim
  | cons rd rr =>
    cases ru with
    | cons r1 r2 =>
      rw [hs]
      refine assignInOrder_cons (thn (h1.run _ τ h _ q r v _ σ H (fun σ1 H1 => ∃ τ1 h1', Ext H H1 ∧ RelS S.K h1' τ1 σ1 H1 ∧ σ1.length = σ.length ∧ (∀ j, j ∉ ws → σ1[j]? = σ[j]?) ∧ u _ τ1 h1' Q) hl rs rd (fun τ1 h1' σ1 H1 e1 rs1 l1 t1 q1 => ⟨τ1, h1', e1, rs1, l1, t1, q1⟩) pins s _ I r1)
        fun _ s1 ⟨σ1, H1, I1, τ1, h1', e1, rs1, l1, t1, q1⟩ => ?_)
      refine h2.run _ τ1 h1' Q q1 r v _ σ1 H1 QV (l1.trans hl) rs1 (rr.ext e1) (fun τ2 h2' σ2 H2 e2 rs2 l2 t2 q2 => ?_) pins s1 _ I1 r2
      refine kt τ2 h2' σ2 H2 (e1.trans e2) rs2 (l2.trans l1) (fun j hj => ?_) q2
      rw [List.mem_append] at hj
      rw [t2 j fun z => hj (.inr z), t1 j fun z => hj (.inl z)]
@[reducible] def gTu (n : Nat) (t : RGs) : RG := fun d τ h Q => match d with
  | .tup ds => ds.length = n ∧ t ds τ h Q
  | .ref p => ∃ ds, h p = some (.lst ds) ∧ ds.length = n ∧ t ds τ h Q
  | _ => False
theorem dg_tup {k n : Nat} {ws : List Nat} {t : RGs} (h : DGs S es ws t) (hn : ∀ env, (assignEach es env).length = n) (hst : ∀ env, (assignEach es env).findIdx? (·.1) = none) : DG S (.Tuple es k pos) ws (gTu n t) := by
  refine ⟨fun d τ h' Q q r v v1 σ H QV hlen rs rp kt pins s u I ru => ?_⟩
  cases rp <;> try exact q.elim
  · obtain ⟨ds, hp, q1, q2⟩ := q
    obtain ⟨vs, f, rr⟩ := RelH.lst rs.ob hp
    cases ru
    obtain ⟨its, rv, pl, hz⟩ := I.list (SqL.of f)
    have hsz : (assignEach es r.env).length = its.toArray.size := by have := rr.length; have := rv.length; have := hn r.env; simp; omega
    rw [PyProof.Rows.assign_Tuple]
    refine wpAny_bind (wpAny_standAt ?_)
    unfold unpack
    rw [hsz, hst]
    refine wpAny_bind (wpAny_holding (PySem.W.kun_itemsOf (I.ok.hd rfl) pl.isList fun h2 hx => ?_))
    have I1 : Inv (S.cx r) pins σ H { s with heap := h2 } := I.kept (t' := s.toks) fun b o e => hx b o (Nat.ne_of_lt (Heap.lt_size e)) e
    exact h.run ds τ h' Q q2 r v vs σ H QV hlen rs rr kt pins _ its I1 (by simpa using rv)
  · rename_i vs ds hq rr
    obtain ⟨q1, q2⟩ := q
    cases ru
    obtain ⟨its, rv, ht, hz⟩ := I.tuple hq
    refine assign_Tuple_tuple (I.ok.hd rfl) ht (by have := rr.length; have := rv.length; have := hn r.env; simp; omega) (hst _) fun h2 hx => ?_
    have I1 : Inv (S.cx r) pins σ H { s with heap := h2 } := I.kept (t' := s.toks) fun b o e => hx b o (Nat.ne_of_lt (Heap.lt_size e)) e
    exact h.run ds τ h' Q q2 r v vs σ H QV hlen rs rr kt pins _ its I1 (by simpa using rv)
/-- o[i] = .., a list -/
@[reducible] def gSubL (to ti : RE) : RG := fun d τ h Q => to τ h fun o h1 => ti τ h1 fun i h2 => match o, i with
  | .ref p, .int k => ∃ ds, h2 p = some (.lst ds) ∧ ∃ j, ixN ds.length k = some j ∧ Q τ (dupd h2 p (.lst (ds.set j d)))
  | _, _ => False
theorem dg_sub {i : Expr} {to ti : RE} (ho : DE S o to) (hi : DE S i ti) (hs : ∀ env v, assign (.Subscript o i pos) env v = (do
      let ov ← holding [v] (eval o env)
      let iv ← holding [v, ov] (eval i env)
      standAt pos
      holding [v, ov, iv] (setItem ov iv v)
      release [v, ov, iv] [])) : DG S (.Subscript o i pos) [] (gSubL to ti) := by
  refine ⟨fun d τ h Q q r v v1 σ H QV hlen rs rp kt pins s u I ru => ?_⟩
  refine (pg_sub (X := S.cx r) (peTop (e := o)) (peTop (e := i)) set_list (hs _)).run pins s σ H v1 u QV I ru ?_
  refine ho.run τ h _ q r v σ H _ rs fun d1 w1 h1 H1 e1 rs1 rp1 q1 => ?_
  refine hi.run τ h1 _ q1 r v σ H1 _ rs1 fun d2 w2 h2 H2 e2 rs2 rp2 q2 => ?_
  cases d1 <;> cases d2 <;> try exact q2.elim
  cases rp2
  cases rp1
  obtain ⟨ds, hp, j, hj, q2⟩ := q2
  obtain ⟨vs, f, rr⟩ := RelH.lst rs2.ob hp
  refine ⟨_, vs, _, j, rfl, rfl, f, by rw [← rr.length]; exact hj, ?_⟩
  refine kt _ _ _ _ ((e1.trans e2).trans (.lst f)) (rs2.to (.lst f) (RelH.setLst rs2.ob hp f (rr.set (rp.ext (e1.trans e2)) j))) rfl (fun _ _ => rfl) q2

/-! ### statements -/
@[reducible] def rNext : RS := fun D τ h => D.nx τ h
@[reducible] def rSeq (t u : RS) : RS := fun D τ h => t { D with nx := u D } τ h
variable {st : Stmt} {rest : List Stmt} {t u : RS} {ttA : RT}
theorem dss_nil : DSs S [] rNext := ⟨fun D τ h q r v σ H DV hl rs kt pins s I => (pss_nil (X := S.cx r)).run pins s σ H DV I (kt.nx _ _ _ _ (.refl _) rs hl q)⟩
theorem KontS.then {K : PySem.W.Frag} {H0 : Hp} {n : Nat} {D : DEnds} {DV : Ends} {f : DSt → DH → Prop} {g : L2.St → Hp → Prop} (k : KontS K H0 n D DV) (hf : ∀ τ h σ H, Ext H0 H → RelS K h τ σ H → σ.length = n → f τ h → g σ H) :
    KontS K H0 n { D with nx := f } { DV with nx := g } := ⟨hf, k.rt, k.bk, k.ct⟩
theorem dss_cons (h1 : DS S st t) (h2 : DSs S rest u) : DSs S (st :: rest) (rSeq t u) := by
  refine ⟨fun D τ h q r v σ H DV hl rs kt pins s I => ?_⟩
  refine (pss_cons (X := S.cx r) (psTop (st := st)) (pssTop (st := rest))).run pins s σ H DV I ?_
  exact h1.run _ τ h q r v σ H _ hl rs (kt.then fun τ1 h1 σ1 H1 e1 rs1 l1 q1 => h2.run D τ1 h1 q1 r v σ1 H1 DV l1 rs1 (kt.at e1))
theorem dss_one (h1 : DS S st t) : DSs S [st] t := ⟨fun D τ h q r v σ H DV hl rs kt pins s I => (pss_one (X := S.cx r) (psTop (st := st))).run pins s σ H DV I (h1.run D τ h q r v σ H DV hl rs kt)⟩
@[reducible] def rBreak : RS := fun D τ h => D.bk τ h
@[reducible] def rCont : RS := fun D τ h => D.ct τ h
theorem ds_pass : DS S (.Pass pos) rNext := ⟨fun D τ h q r v σ H DV hl rs kt pins s I => (ps_pass (X := S.cx r)).run pins s σ H DV I (kt.nx _ _ _ _ (.refl _) rs hl q)⟩
theorem ds_break : DS S (.Break pos) rBreak := ⟨fun D τ h q r v σ H DV hl rs kt pins s I => (ps_break (X := S.cx r)).run pins s σ H DV I (kt.bk _ _ _ _ (.refl _) rs hl q)⟩
theorem ds_continue : DS S (.Continue pos) rCont := ⟨fun D τ h q r v σ H DV hl rs kt pins s I => (ps_continue (X := S.cx r)).run pins s σ H DV I (kt.ct _ _ _ _ (.refl _) rs hl q)⟩
@[reducible] def rDrop (te : RE) : RS := fun D τ h => te τ h fun _ h1 => D.nx τ h1
theorem ds_expr (he : DE S e te) (hs : ∀ env, swapsWith e none pos.line env = pure false) : DS S (.Expr e pos) (rDrop te) :=
  ⟨fun D τ h q r v σ H DV hl rs kt pins s I => (ps_expr (X := S.cx r) (peTop (e := e)) (hs _)).run pins s σ H DV I (he.run τ h _ q r v σ H _ rs fun d v1 h1 H1 e1 rs1 rp1 q1 => kt.nx _ _ _ _ e1 rs1 hl q1)⟩
@[reducible] def rRet (te : RE) : RS := fun D τ h => te τ h D.rt
theorem ds_ret (he : DE S e te) : DS S (.Return (some e) pos) (rRet te) :=
  ⟨fun D τ h q r v σ H DV hl rs kt pins s I => (ps_ret (X := S.cx r) (peTop (e := e))).run pins s σ H DV I (he.run τ h _ q r v σ H _ rs fun d v1 h1 H1 e1 rs1 rp1 q1 => kt.rt _ _ _ _ e1 rs1.ob rp1 q1)⟩
@[reducible] def rRetN : RS := fun D _ h => D.rt .non h
theorem ds_retN : DS S (.Return none pos) rRetN := ⟨fun D τ h q r v σ H DV hl rs kt pins s I => (ps_retN (X := S.cx r)).run pins s σ H DV I (kt.rt _ _ _ _ (.refl _) rs.ob .non q)⟩
@[reducible] def rIf (c : RT) (t u : RS) : RS := fun D τ h => c τ h fun b h1 => Br b (t D τ h1) (u D τ h1)
theorem ds_if {p q : List Stmt} (hc : DT S c ttA) (ha : DSs S p t) (hb : DSs S q u) : DS S (.If c p q pos) (rIf ttA t u) := by
  refine ⟨fun D τ h q r v σ H DV hl rs kt pins s I => ?_⟩
  refine (ps_if (X := S.cx r) (ptTop (e := c)) (pssTop (st := p)) (pssTop (st := _))).run pins s σ H DV I ?_
  refine hc.run τ h _ q r v σ H _ rs fun b h1 H1 e1 rs1 q1 => ?_
  cases b with
  | true => exact iteT (ha.run D τ h1 (q1.1 rfl) r v σ H1 DV hl rs1 (kt.at e1))
  | false => exact iteF (hb.run D τ h1 (q1.2 rfl) r v σ H1 DV hl rs1 (kt.at e1))
@[reducible] def rAsg (te : RE) (g : RG) : RS := fun D τ h => te τ h fun d h1 => g d τ h1 D.nx
theorem ds_asg {tg : Expr} {ws : List Nat} {g : RG} (he : DE S e te) (hg : DG S tg ws g) (hs : ∀ env, swapsWithSole [tg] e pos.line env = pure false) (hw : ∀ env, swappedStores [tg] e env = pure none)
    (h1 : ∀ env, (assignEach [tg] env).map (·.2) = [assign tg env]) : DS S (.Assign [tg] e pos) (rAsg te g) := by
  refine ⟨fun D τ h q r v σ H DV hl rs kt pins s I => ?_⟩
  refine (ps_asg (X := S.cx r) (peTop (e := e)) (pgTop (tg := tg)) (hs _) (hw _) (h1 _)).run pins s σ H DV I ?_
  refine he.run τ h _ q r v σ H _ rs fun d v1 h1 H1 e1 rs1 rp1 q1 => ?_
  exact hg.run d τ h1 _ q1 r v v1 σ H1 _ hl rs1 rp1 fun τ2 h2 σ2 H2 e2 rs2 l2 _ q2 => kt.nx _ _ _ _ (e1.trans e2) rs2 (l2.trans hl) q2
/-- a, b = x, y -/
@[reducible] def rPar (i j : Nat) (ua : RA) : RS := fun D τ h => ua τ h fun ds h1 => match ds with
  | [d, e] => D.nx (sto (sto τ i (some d)) j (some e)) h1
  | _ => False
theorem ds_par {i j : Nat} {x y : Str} {px py pt : Pos} {kt' k2 : Nat} {pt2 : Pos} (hi : S.N[i]? = some x) (hj : S.N[j]? = some y) (hij : i ≠ j) (hx : locI S.N S.sc (fun _ => false) i = true) (hy : locI S.N S.sc (fun _ => false) j = true)
    (ha : DA S [a, b] ua) (hw : ∀ env, env.scope = S.sc → swappedStores [.Tuple [.Name x px, .Name y py] kt' pt] (.Tuple [a, b] k2 pt2) env = pure (some [x, y]))
    (hs : ∀ env, swapsWithSole [.Tuple [.Name x px, .Name y py] kt' pt] (.Tuple [a, b] k2 pt2) pos.line env = pure false) :
    DS S (.Assign [.Tuple [.Name x px, .Name y py] kt' pt] (.Tuple [a, b] k2 pt2) pos) (rPar i j ua) := by
  refine ⟨fun D τ h q r v σ H DV hl rs kt pins s I => ?_⟩
  have lx : r.env.scope.names.lookup x = some .local := by rw [v.sc]; exact (locI_of hx hi).elim id fun z => by cases z.2
  have ly : r.env.scope.names.lookup y = some .local := by rw [v.sc]; exact (locI_of hy hj).elim id fun z => by cases z.2
  have hi' : i < σ.length := by rw [hl]; exact (List.getElem?_eq_some_iff.mp hi).1
  have hj' : j < σ.length := by rw [hl]; exact (List.getElem?_eq_some_iff.mp hj).1
  refine (ps_par (X := S.cx r) rfl v.nd hi hj hij lx ly (paTop (es := [a, b])) (hw _ v.sc) (hs _)).run pins s σ H DV I ?_
  refine ha.run τ h _ q r v σ H _ rs fun ds vs h1 H1 e1 rs1 rp1 q1 => ?_
  match ds, rp1, q1 with
  | [d, e], rp1, q1 =>
    obtain ⟨v1, v2, rfl, r1, r2⟩ := reps2 rp1
    exact ⟨v1, v2, rfl, kt.nx _ _ _ _ e1 ((rs1.set hi' r1).set (by simpa using hj') r2) (by simpa using hl) (by rw [← sto_eq, ← sto_eq]; exact q1)⟩
  | [], _, q1 => exact q1.elim
  | [_], _, q1 => exact q1.elim
  | _ :: _ :: _ :: _, _, q1 => exact q1.elim
/-- x op= e -/
@[reducible] def rAug (i : Nat) (te : RE) (ro : D → D → DH → RK → Prop) : RS := fun D τ h => match lk τ i with
  | some d => te τ h fun y h1 => ro d y h1 fun z h2 => D.nx (sto τ i (some z)) h2
  | none => False
theorem ds_aug {i : Nat} {op : Operator} {ro : D → D → DH → RK → Prop} {pos' : Pos} (ho : OpD S (inplaceOp op) ro) (hl : locI S.N S.sc S.fn i = true) (hN : S.N[i]? = some x) (he : DE S e te) : DS S (.AugAssign (.Name x pos') op e pos) (rAug i te ro) := by
  refine ⟨fun D τ h q r v σ H DV hlen rs kt pins s I => ?_⟩
  have hl' := locI_of hl hN
  rw [← v.sc] at hl'
  have hi : i < σ.length := by rw [hlen]; exact (List.getElem?_eq_some_iff.mp hN).1
  unfold rAug at q
  split at q
  · rename_i d ed
    obtain ⟨w, hw, rw'⟩ := rs.sl i d ed
    obtain ⟨m, hn, hlm⟩ := I.loc
    have hx : Loc r.env.scope x := hl'.elim .inl fun z => .inr z.1
    have vis : Vis r.env.scope x := by rcases hx with k | k; exact .inl k; exact .inr (.inl k)
    obtain ⟨u, ru, l⟩ := hlm i x w hN hw vis
    refine wpAny_AugAssign_Name ?_
    have go : wpAny (model S.P S.w) r.A (eval e r.env) (fun w s₂ => wpAny (model S.P S.w) r.A (inplaceOp op u w) (fun z s₃ => wpAny (model S.P S.w) r.A (storeName r.env x z) (fun _ => SP (S.cx r) pins DV .next) (fun _ _ => False) s₃) (fun _ _ => False) s₂) (fun _ _ => False) s := by
      refine thn ((peTop (X := S.cx r) (e := e)).run pins s σ H _ I (he.run τ h _ q r v σ H (fun y H1 => ∃ dy h1, Ext H H1 ∧ RelS S.K h1 τ σ H1 ∧ Rep S.K H1 dy y ∧ ro d dy h1 fun z h2 => D.nx (sto τ i (some z)) h2) rs fun dy y h1 H1 e1 rs1 rp1 q1 => ⟨dy, h1, e1, rs1, rp1, q1⟩)) fun w2 s1 ⟨y, H1, I1, r1, dy, h1, e1, rs1, rp1, q1⟩ => ?_
      refine thn (ho r v d dy h1 _ q1 w y τ σ H1 (fun z H2 => ∃ dz h2, Ext H1 H2 ∧ RelS S.K h2 τ σ H2 ∧ Rep S.K H2 dz z ∧ D.nx (sto τ i (some dz)) h2) rs1 (rw'.ext e1) rp1 (fun dz z h2 H2 e2 rs2 rp2 q2 => ⟨dz, h2, e2, rs2, rp2, q2⟩) pins s1 u w2 I1 ru r1) fun w3 s2 ⟨z, H2, I2, r2, dz, h2, e2, rs2, rp2, q2⟩ => ?_
      exact store_ok I2 v.nd hN hx r2 (fun s3 I3 => ⟨_, H2, I3, kt.nx _ _ _ _ (e1.trans e2) (rs2.set hi rp2) (by simpa using hlen) (by rw [← sto_eq]; exact q2)⟩) (hl'.elim .inr fun z => .inl z.2)
    rcases l with ⟨hk, hm⟩ | ⟨hk, c, hc, hcell⟩
    · exact wpAny_loadName_local I.ok.kind hk hn hm go
    · rcases hk with hk | hk
      · exact wpAny_loadName_cell I.ok.kind hk hc hcell go
      · rcases hx with k | k
        · exact absurd (hk.symm.trans k) (by simp)
        · exact absurd (hk.symm.trans k) (by simp)
  · exact q.elim
@[reducible] def rIadd : D → D → DH → RK → Prop
  | .int i, .int j, h, Q => Q (.int (i + j)) h
  | .str a, .str b, h, Q => a.length + b.length ≤ sizeLine ∧ Q (.str (a ++ b)) h
  | _, _, _, _ => False
theorem iod_add : OpD S (inplaceOp .Add) rIadd := by
  refine OpD.by (fun rst vw => OpR.or iop_add iop_add_str) ?_
  intro dx dy h Q q x y τ σ H QV rs rx ry k
  unfold rIadd at q
  split at q
  · cases rx; cases ry
    exact .inl ⟨_, _, rfl, rfl, k.val rs (.int _) q⟩
  · cases rx; cases ry
    exact .inr ⟨_, _, rfl, rfl, q.1, k.val rs (.str _) q.2⟩
  · exact q.elim
abbrev rIsub : D → D → DH → RK → Prop := rInt0 fun i j => .int (i - j)
theorem iod_sub : OpD S (inplaceOp .Sub) rIsub := od_int0 fun _ _ => iop_sub

/-! ### while -/
@[reducible] def rWhile (c : RT) (tb : RS) : RS := fun D τ h => ∃ W : Nat → DSt → DH → Prop, (∃ m, W m τ h) ∧ ∀ m τ h, W m τ h →
  c τ h fun b h1 => Br b (tb { nx := fun τ' h' => ∃ m', m' < m ∧ W m' τ' h', rt := D.rt, ct := fun τ' h' => ∃ m', m' < m ∧ W m' τ' h', bk := D.nx } τ h1) (D.nx τ h1)
theorem ds_while {body : List Stmt} (hc : DT S c ttA) (hb : DSs S body t) : DS S (.While c body [] pos) (rWhile ttA t) := by
  refine ⟨fun D τ h q r v σ H DV hl rs kt pins s I => ?_⟩
  obtain ⟨W, ⟨m0, w0⟩, turn⟩ := q
  refine (ps_while (X := S.cx r) PassesOwn.never (ptTop (e := c)) (pssTop (st := body))).run pins s σ H DV I ?_
  refine ⟨fun m σ1 H1 => σ1.length = S.N.length ∧ ∃ τ1 h1, Ext H H1 ∧ RelS S.K h1 τ1 σ1 H1 ∧ W m τ1 h1, ⟨m0, hl, τ, h, .refl _, rs, w0⟩, ?_⟩
  rintro m σ1 H1 ⟨l1, τ1, h1, e1, rs1, w1⟩
  refine hc.run τ1 h1 _ (turn m τ1 h1 w1) r v σ1 H1 _ rs1 fun b h2 H2 e2 rs2 q2 => ?_
  cases b with
  | true =>
    refine iteT ⟨fun σ' H' => ∃ m', m' < m ∧ (σ'.length = S.N.length ∧ ∃ τ3 h3, Ext H H' ∧ RelS S.K h3 τ3 σ' H' ∧ W m' τ3 h3), fun σ' H' z => z, ?_⟩
    refine hb.run _ τ1 h2 (q2.1 rfl) r v σ1 H2 _ l1 rs2 ⟨?_, ?_, ?_, ?_⟩
    · rintro τ3 h3 σ3 H3 e3 rs3 l3 ⟨m', hm, w3⟩
      exact ⟨m', hm, l3, τ3, h3, (e1.trans e2).trans e3, rs3, w3⟩
    · exact fun d v1 h3 H3 e3 => kt.rt d v1 h3 H3 ((e1.trans e2).trans e3)
    · exact fun τ3 h3 σ3 H3 e3 => kt.nx τ3 h3 σ3 H3 ((e1.trans e2).trans e3)
    · rintro τ3 h3 σ3 H3 e3 rs3 l3 ⟨m', hm, w3⟩
      exact ⟨m', hm, l3, τ3, h3, (e1.trans e2).trans e3, rs3, w3⟩
  | false => exact iteF (kt.nx _ _ _ _ (e1.trans e2) rs2 l1 (q2.2 rfl))

/-! ### what is walked -/
structure Walks (K : PySem.W.Frag) (H0 : Hp) (J : It) (ds : List D) (g : DH → Prop) : Prop where
  go : ∀ i h H, Ext H0 H → RelH K h H → g h → i < ds.length → J.go i H
  stop : ∀ h H, Ext H0 H → RelH K h H → g h → J.stop ds.length H
  yld : ∀ i h H x H', Ext H0 H → RelH K h H → g h → i < ds.length → J.yld i H x H' → Ext H H' ∧ RelH K h H' ∧ ∃ d, ds[i]? = some d ∧ Rep K H' d x
abbrev RI := DSt → DH → (List D → (DH → Prop) → DH → Prop) → Prop
def iTop (X : Cx) (tg iter : Expr) : TI := fun σ H R => ∀ pins s, Inv X pins σ H s → wpAny (model X.prog X.w) X.A (eval iter X.env) (fun v s1 => wpAny (model X.prog X.w) X.A (pyIter v) (PIE X pins σ tg R) X.xe s1) X.xe s
theorem piTop {X : Cx} {tg iter : Expr} : PI X tg iter (iTop X tg iter) := ⟨fun pins s _ _ _ I h => h pins s I⟩
structure DI (S : Sta) (tg iter : Expr) (t : RI) : Prop where
  run : ∀ τ h R, t τ h R → ∀ r, Vw S r → ∀ σ H (RV : It → Hp → Prop), RelS S.K h τ σ H → (∀ ds g J h' H', Ext H H' → RelS S.K h' τ σ H' → Walks S.K H' J ds g → R ds g h' → RV J H') → iTop (S.cx r) tg iter σ H RV
@[reducible] def rIt : D → DH → (List D → (DH → Prop) → DH → Prop) → Prop
  | .tup ds, h, R => R ds (fun _ => True) h
  | .ref p, h, R => ∃ ds, h p = some (.lst ds) ∧ R ds (fun h' => h' p = some (.lst ds)) h
  | .scr ns, h, R => R (ns.map D.int) (fun _ => True) h
  | .str x, h, R => R (x.cps.toList.map fun c => .str ⟨#[c]⟩) (fun _ => True) h
  | _, _, _ => False
@[reducible] def rIter (te : RE) : RI := fun τ h R => te τ h fun d h1 => rIt d h1 R
theorem di_val {tg : Expr} (he : DE S e te) : DI S tg e (rIter te) := by
  refine ⟨fun τ h R q r v σ H RV rs kt pins s I => ?_⟩
  refine thn ((peTop (X := S.cx r) (e := e)).run pins s σ H _ I (he.run τ h _ q r v σ H (fun y H1 => ∃ dy h1, Ext H H1 ∧ RelS S.K h1 τ σ H1 ∧ Rep S.K H1 dy y ∧ rIt dy h1 R) rs fun dy y h1 H1 e1 rs1 rp1 q1 => ⟨dy, h1, e1, rs1, rp1, q1⟩)) fun w s1 ⟨y, H1, I1, r1, dy, h1, e1, rs1, rp1, q1⟩ => ?_
  have fpo : ∀ (s1 : Shared), Inv (S.cx r) pins σ H1 s1 → ∀ b ∈ [s1.heap.objs.size], FpOk (S.cx r) pins H1 b := fun s1 I1 b hb => by
    have e : b = s1.heap.objs.size := by simpa using hb
    subst e
    exact I1.fpOk (Nat.le_refl _) (I1.hok.fresh (Nat.le_refl _))
  cases rp1 <;> try exact q1.elim
  · -- a text
    rename_i x
    obtain ⟨t, rfl⟩ := r1
    have wk : Walks S.K H1 (Its x) (x.cps.toList.map fun c => D.str ⟨#[c]⟩) (fun _ => True) := by
      refine ⟨fun i h2 H2 _ _ _ hi => by show i < x.cps.size; simpa using hi, fun h2 H2 _ _ _ => by show x.cps.size ≤ _; simp, fun i h2 H2 z H3 _ rh _ hi hy => ?_⟩
      obtain ⟨rfl, c, hc, rfl⟩ := hy
      exact ⟨.refl _, rh, .str ⟨#[c]⟩, by simp [hc], .str _⟩
    have q2 := kt _ _ (Its x) _ _ e1 rs1 wk q1
    cases ha : x.cps.all (· < 128)
    · exact wpAny_pyIter_wide ha (pi_one (X := S.cx r) (tk := s1.toks) I1 _ (turn_str _ x t "str_iterator" (.inr rfl)) ⟨_, Heap.get?_push_size _ rfl, rfl, rfl⟩ q2)
    · exact wpAny_pyIter_ascii ha (pi_one (X := S.cx r) (tk := s1.toks) I1 _ (turn_str _ x t "str_ascii_iterator" (.inl rfl)) ⟨_, Heap.get?_push_size _ rfl, rfl, rfl⟩ q2)
  · -- a list
    rename_i p
    cases r1
    obtain ⟨ds, hp, q1⟩ := q1
    obtain ⟨vs, f, rr⟩ := RelH.lst rs1.ob hp
    obtain ⟨its, rv, pl, hz⟩ := I1.list (SqL.of f)
    have wk : Walks S.K H1 (Itl S.K p) ds (fun h' => h' p = some (.lst ds)) := by
      refine ⟨fun i h2 H2 _ rh g hi => ?_, fun h2 H2 _ rh g => ?_, fun i h2 H2 z H3 _ rh g hi hy => ?_⟩
      · obtain ⟨us, f2, r2⟩ := RelH.lst rh g
        have : i < us.length := by rw [← r2.length]; exact hi
        exact ⟨us, us[i], SqL.of f2, List.getElem?_eq_getElem this⟩
      · obtain ⟨us, f2, r2⟩ := RelH.lst rh g
        exact ⟨us, SqL.of f2, by rw [r2.length]; exact Nat.le_refl _⟩
      · obtain ⟨rfl, hy⟩ := hy
        obtain ⟨us, f2, r2⟩ := RelH.lst rh g
        obtain ⟨d, h1, h2⟩ := r2.getV (hy us (SqL.of f2))
        exact ⟨.refl _, rh, d, h1, h2⟩
    refine wpAny_pyIter_list pl.isList ?_
    exact ⟨s1.heap.objs.size, [s1.heap.objs.size], _, _, H1, rfl, I1.kept (t' := s1.toks) fun b o e => Heap.get?_push_of_some _ e, turn_list p _, ⟨_, Heap.get?_push_size _ rfl, rfl, rfl⟩, fpo s1 I1, kt _ _ _ _ _ e1 rs1 wk q1⟩
  · -- a tuple
    rename_i p vs ds hq rr
    cases r1
    obtain ⟨its, rv, pl, hz⟩ := I1.tuple hq
    have wk : Walks S.K H1 (Itt S.K p) ds (fun _ => True) := by
      refine ⟨fun i h2 H2 e2 rh g hi => ?_, fun h2 H2 e2 rh g => ?_, fun i h2 H2 z H3 e2 rh g hi hy => ?_⟩
      · have : i < vs.length := by rw [← rr.length]; exact hi
        exact ⟨vs, vs[i], sqT_ext e2 hq, List.getElem?_eq_getElem this⟩
      · exact ⟨vs, sqT_ext e2 hq, by rw [rr.length]; exact Nat.le_refl _⟩
      · obtain ⟨rfl, hy⟩ := hy
        obtain ⟨d, h1, h2⟩ := (rr.ext e2).getV (hy vs (sqT_ext e2 hq))
        exact ⟨.refl _, rh, d, h1, h2⟩
    refine wpAny_pyIter_tuple (show s1.heap.IsTuple p its.toArray from pl) ?_
    exact ⟨s1.heap.objs.size, [s1.heap.objs.size], _, _, H1, rfl, I1.kept (t' := s1.toks) fun b o e => Heap.get?_push_of_some _ e, turn_tuple p _, ⟨_, Heap.get?_push_size _ rfl, rfl, rfl⟩, fpo s1 I1, kt _ _ _ _ _ e1 rs1 wk q1⟩
  · -- the script
    rename_i p ns hq
    cases r1
    obtain ⟨its, rv, pl, hz⟩ := I1.list hq.sq
    have wk : Walks S.K H1 (Itl S.K p) (ns.map D.int) (fun _ => True) := by
      refine ⟨fun i h2 H2 e2 rh g hi => ?_, fun h2 H2 e2 rh g => ?_, fun i h2 H2 z H3 e2 rh g hi hy => ?_⟩
      · have : i < (ns.map V.int).length := by simpa using hi
        exact ⟨_, _, (frzL_ext e2 hq).sq, List.getElem?_eq_getElem this⟩
      · exact ⟨_, (frzL_ext e2 hq).sq, by simp⟩
      · obtain ⟨rfl, hy⟩ := hy
        obtain ⟨d, h1, h2⟩ := (Reps.ofInts ns).getV (hy _ (frzL_ext e2 hq).sq)
        exact ⟨.refl _, rh, d, h1, h2⟩
    refine wpAny_pyIter_list pl.isList ?_
    exact ⟨s1.heap.objs.size, [s1.heap.objs.size], _, _, H1, rfl, I1.kept (t' := s1.toks) fun b o e => Heap.get?_push_of_some _ e, turn_list p _, ⟨_, Heap.get?_push_size _ rfl, rfl, rfl⟩, fpo s1 I1, kt _ _ _ _ _ e1 rs1 wk q1⟩
end
end DL
namespace DL
open PySem PySem.Spec PyProof.Rows L2
/-! ### ranges -/
def rngD (lo : Int) (n : Nat) : List D := (List.range n).map fun (i : Nat) => .int (lo + (i : Int))
theorem rngD_len (lo : Int) (n : Nat) : (rngD lo n).length = n := by simp [rngD]
theorem rngD_get {lo : Int} {n i : Nat} (h : i < n) : (rngD lo n)[i]? = some (.int (lo + (i : Int))) := by simp [rngD, h]
theorem walks_range {K : PySem.W.Frag} {H : Hp} {lo : Int} {n : Nat} : Walks K H (Itr lo n) (rngD lo n) (fun _ => True) := by
  refine ⟨fun i h2 H2 _ _ _ hi => by show i < n; rw [rngD_len] at hi; exact hi, fun h2 H2 _ _ _ => by show n ≤ _; rw [rngD_len]; exact Nat.le_refl _, fun i h2 H2 z H3 _ rh _ hi hy => ?_⟩
  obtain ⟨rfl, rfl⟩ := hy
  rw [rngD_len] at hi
  exact ⟨.refl _, rh, _, rngD_get hi, .int _⟩
section
variable {S : Sta} {pos p : Pos} {a b c e o tg iter elt : Expr} {ta tb tc te : RE} {es : List Expr} {ua : RA} {x : Str}
@[reducible] def rRng1 (ua : RA) : RI := fun τ h R => ua τ h fun ds h1 => match ds with
  | [.int j] => -(2 ^ 62) ≤ j ∧ j < 2 ^ 62 ∧ R (rngD 0 j.toNat) (fun _ => True) h1
  | _ => False
@[reducible] def rRng2 (ua : RA) : RI := fun τ h R => ua τ h fun ds h1 => match ds with
  | [.int i, .int j] => (-(2 ^ 62) ≤ i ∧ i < 2 ^ 62 ∧ -(2 ^ 62) ≤ j ∧ j < 2 ^ 62) ∧ R (rngD i (j - i).toNat) (fun _ => True) h1
  | _ => False
theorem di_range1 (hg : glbI S.sc "range" = true) (hm : S.mg "range" = none) (ha : DA S [a] ua) (hs : ∀ env, starEach [a] env = [(false, eval a env)]) : DI S tg (.Call (.Name "range" p) [a] [] pos) (rRng1 ua) := by
  refine ⟨fun τ h R q r v σ H RV rs kt pins s I => ?_⟩
  refine (pi_range1 (X := S.cx r) (gl_of v hg) hm (paTop (es := [a])) (hs _)).run pins s σ H RV I ?_
  refine ha.run τ h _ q r v σ H _ rs fun ds vs h1 H1 e1 rs1 rp1 q1 => ?_
  dsimp only at q1
  split at q1
  · rename_i j
    obtain ⟨w, rfl, r1⟩ := reps1 rp1
    cases r1
    exact ⟨j, rfl, q1.1, q1.2.1, kt _ _ _ _ _ e1 rs1 walks_range q1.2.2⟩
  · exact q1.elim
theorem di_range2 (hg : glbI S.sc "range" = true) (hm : S.mg "range" = none) (ha : DA S [a, b] ua) (hs : ∀ env, starEach [a, b] env = [(false, eval a env), (false, eval b env)]) (hs2 : ∀ env, starEach [b] env = [(false, eval b env)]) :
    DI S tg (.Call (.Name "range" p) [a, b] [] pos) (rRng2 ua) := by
  refine ⟨fun τ h R q r v σ H RV rs kt pins s I => ?_⟩
  refine (pi_range2 (X := S.cx r) (gl_of v hg) hm (paTop (es := [a, b])) (hs _) (hs2 _)).run pins s σ H RV I ?_
  refine ha.run τ h _ q r v σ H _ rs fun ds vs h1 H1 e1 rs1 rp1 q1 => ?_
  dsimp only at q1
  split at q1
  · rename_i i j
    obtain ⟨w, w', rfl, r1, r2⟩ := reps2 rp1
    cases r1; cases r2
    exact ⟨i, j, rfl, q1.1, kt _ _ _ _ _ e1 rs1 walks_range q1.2⟩
  · exact q1.elim

/-! ### for -/
def dfor (g : RG) (tb : RS) (grd : DH → Prop) (D : DEnds) : List DL.D → DSt → DH → Prop
  | [], τ, h => grd h ∧ D.nx τ h
  | x :: xs, τ, h => grd h ∧ g x τ h fun τ' h' => tb { nx := dfor g tb grd D xs, rt := D.rt, bk := D.nx, ct := dfor g tb grd D xs } τ' h'
@[reducible] def rFor (ti : RI) (g : RG) (tb : RS) : RS := fun D τ h => ti τ h fun ds grd h1 => dfor g tb grd D ds τ h1
theorem dfor_grd {g : RG} {tb : RS} {grd : DH → Prop} {D : DEnds} {xs : List DL.D} {τ : DSt} {h : DH} (q : dfor g tb grd D xs τ h) : grd h := by
  cases xs with
  | nil => exact q.1
  | cons _ _ => exact q.1
theorem ds_for {ti : RI} {g : RG} {t : RS} {ws : List Nat} {body : List Stmt} (hi : DI S tg iter ti) (hg : DG S tg ws g) (hb : DSs S body t) (hs : ∀ env x, foldedSetIterable iter env x = pure x) : DS S (.For tg iter body [] pos) (rFor ti g t) := by
  refine ⟨fun D τ h q r v σ H DV hl rs kt pins s I => ?_⟩
  refine (ps_for (X := S.cx r) PassesOwn.never rfl (piTop (tg := tg) (iter := iter)) (pgTop (tg := tg)) (pssTop (st := body)) (hs _)).run pins s σ H DV I ?_
  refine hi.run τ h _ q r v σ H _ rs fun ds grd J h1 H1 e1 rs1 wk q1 => ?_
  refine ⟨fun i m σ2 H2 => m = ds.length - i ∧ i ≤ ds.length ∧ σ2.length = S.N.length ∧ ∃ τ2 h2, Ext H1 H2 ∧ RelS S.K h2 τ2 σ2 H2 ∧ dfor g t grd D (ds.drop i) τ2 h2, ⟨ds.length, by simp, Nat.zero_le _, hl, τ, h1, .refl _, rs1, by simpa using q1⟩, ?_⟩
  rintro i m σ2 H2 ⟨rfl, hi', l2, τ2, h2, e2, rs2, q2⟩
  have hgr := dfor_grd q2
  by_cases hlt : i < ds.length
  · rw [List.drop_eq_getElem_cons hlt] at q2
    refine .inr ⟨wk.go i h2 H2 e2 rs2.ob hgr hlt, fun σ3 H3 => σ3.length = S.N.length ∧ ∃ τ3 h3, Ext H1 H3 ∧ RelS S.K h3 τ3 σ3 H3 ∧ dfor g t grd D (ds.drop (i + 1)) τ3 h3, ?_, ?_⟩
    · rintro σ3 H3 ⟨l3, τ3, h3, e3, rs3, q3⟩
      exact ⟨ds.length - (i + 1), by omega, rfl, hlt, l3, τ3, h3, e3, rs3, q3⟩
    · intro x H3 hy
      obtain ⟨e3, rh3, d, hd, rd⟩ := wk.yld i h2 H2 x H3 e2 rs2.ob hgr hlt hy
      rw [List.getElem?_eq_getElem hlt] at hd
      cases hd
      refine hg.run _ τ2 h2 _ q2.2 r v x σ2 H3 _ l2 (rs2.to e3 rh3) rd fun τ4 h4 σ4 H4 e4 rs4 l4 _ q4 => ?_
      refine hb.run _ τ4 h4 q4 r v σ4 H4 _ (l4.trans l2) rs4 ⟨?_, ?_, ?_, ?_⟩
      · exact fun τ5 h5 σ5 H5 e5 rs5 l5 q5 => ⟨l5, τ5, h5, ((e2.trans e3).trans e4).trans e5, rs5, q5⟩
      · exact fun d1 v1 h5 H5 e5 => kt.rt d1 v1 h5 H5 (e1.trans (((e2.trans e3).trans e4).trans e5))
      · exact fun τ5 h5 σ5 H5 e5 => kt.nx τ5 h5 σ5 H5 (e1.trans (((e2.trans e3).trans e4).trans e5))
      · exact fun τ5 h5 σ5 H5 e5 rs5 l5 q5 => ⟨l5, τ5, h5, ((e2.trans e3).trans e4).trans e5, rs5, q5⟩
  · obtain rfl : i = ds.length := by omega
    rw [List.drop_length] at q2
    exact .inl ⟨wk.stop h2 H2 e2 rs2.ob hgr, kt.nx _ _ _ _ (e1.trans e2) rs2 l2 q2.2⟩

/-! ### list comprehensions -/
@[reducible] def Sta.blk (S : Sta) (scope : Scope) : Sta := { S with sc := relS scope S.sc, fn := fun x => scope.names.lookup x == some .cell }
structure DTs (S : Sta) (ifs : List Expr) (t : RT) : Prop where
  run : ∀ τ h Q, t τ h Q → ∀ r, Vw S r → ∀ σ H QV, RelS S.K h τ σ H → KontT S.K H τ σ Q QV → ∀ pins s, Inv (S.cx r) pins σ H s →
    wpAny (model S.P S.w) r.A (forIn ifs true fun c r' => if r' = true then do let ok ← isTrue c r.env (eval c r.env); pure (ForInStep.yield ok) else pure (ForInStep.yield r')) (TP (S.cx r) pins σ QV) (fun _ _ => False) s
@[reducible] def rYes : RT := fun _ h Q => Q true h
theorem dts_nil : DTs S [] rYes := ⟨fun τ h Q q r v σ H QV rs kt pins s I => (pts_nil (X := S.cx r)).run pins s σ H QV I (kt _ _ _ (.refl _) rs q)⟩
theorem dts_one {t : RT} (hc : DT S c t) : DTs S [c] t := ⟨fun τ h Q q r v σ H QV rs kt pins s I => (pts_one (X := S.cx r) (ptTop (e := c))).run pins s σ H QV I (hc.run τ h Q q r v σ H QV rs kt)⟩
@[reducible] def wipeD (τ : DSt) : List Nat → DSt
  | [] => τ
  | v :: vs => sto (wipeD τ vs) v none
theorem lk_wipeD {τ : DSt} : ∀ {vs : List Nat} {j : Nat} {d : D}, lk (wipeD τ vs) j = some d → lk τ j = some d ∧ j ∉ vs
  | [], j, d, h => ⟨h, by simp⟩
  | v :: vs, j, d, h => by
    obtain ⟨a, b⟩ := lk_wipe (by rw [← sto_eq]; exact h)
    obtain ⟨c, e⟩ := lk_wipeD (vs := vs) b
    exact ⟨c, by simp [a, e]⟩
theorem wipe_get {σ : L2.St} : ∀ {vs : List Nat} {j : Nat}, j ∉ vs → (wipe σ vs)[j]? = σ[j]?
  | [], _, _ => rfl
  | v :: vs, j, h => by
    simp only [List.mem_cons, not_or] at h
    show ((wipe σ vs).set v none)[j]? = _
    rw [List.getElem?_set_ne (Ne.symm h.1), wipe_get h.2]
theorem wipe_in {σ : L2.St} : ∀ {vs : List Nat} {j : Nat}, j ∈ vs → j < σ.length → (wipe σ vs)[j]? = some none
  | v :: vs, j, h, hl => by
    show ((wipe σ vs).set v none)[j]? = _
    by_cases e : v = j
    · subst e; rw [List.getElem?_set_self (by rw [wipe_length]; exact hl)]
    · rw [List.getElem?_set_ne e]
      rcases List.mem_cons.mp h with z | z
      · exact absurd z.symm e
      · exact wipe_in z hl
theorem wipe_same {σ σ' : L2.St} {vs : List Nat} (hl : σ'.length = σ.length) (h : ∀ j, j ∉ vs → σ'[j]? = σ[j]?) : wipe σ' vs = wipe σ vs := by
  apply List.ext_getElem?
  intro j
  by_cases hj : j ∈ vs
  · by_cases hlt : j < σ.length
    · rw [wipe_in hj hlt, wipe_in hj (by omega)]
    · rw [List.getElem?_eq_none (by rw [wipe_length]; omega), List.getElem?_eq_none (by rw [wipe_length]; omega)]
  · rw [wipe_get hj, wipe_get hj, h j hj]
theorem RelS.wipe {K : PySem.W.Frag} {h : DH} {τ : DSt} {σ : L2.St} {H : Hp} (rs : RelS K h τ σ H) (vs : List Nat) : RelS K h (wipeD τ vs) (wipe σ vs) H :=
  ⟨fun i d q => let ⟨a, b⟩ := lk_wipeD q; let ⟨v, c, e⟩ := rs.sl i d a; ⟨v, by rw [wipe_get b]; exact c, e⟩, rs.ob⟩
/-- the turns of a comprehension, its list at p -/
def dlc (g : RG) (tt : RT) (te : RE) (grd : DH → Prop) (p : Addr) (τ : DSt) (Q : RK) : List D → DH → Prop
  | [], h => grd h ∧ Q (.ref p) h
  | x :: xs, h => grd h ∧ g x τ h fun τ2 h2 => tt τ2 h2 fun b h3 =>
      Br b (te τ2 h3 fun y h4 => ∃ acc, h4 p = some (.lst acc) ∧ acc.length < sizeLine ∧ dlc g tt te grd p τ Q xs (dupd h4 p (.lst (acc ++ [y])))) (dlc g tt te grd p τ Q xs h3)
@[reducible] def rLc (ti : RI) (g : RG) (tt : RT) (te : RE) (vs : List Nat) : RE := fun τ h Q => ti τ h fun ds grd h1 => ∀ p, h1 p = none → dlc g tt te grd p (wipeD τ vs) Q ds (dupd h1 p (.lst []))
theorem dlc_grd {g : RG} {tt : RT} {te : RE} {grd : DH → Prop} {p : Addr} {τ : DSt} {Q : RK} {xs : List D} {h : DH} (q : dlc g tt te grd p τ Q xs h) : grd h := by
  cases xs with
  | nil => exact q.1
  | cons _ _ => exact q.1
/-- the block's contexts -/
def blkRest (r : Rest) (s : Shared) (H : Hp) (cenv : Env) (fp : List Addr) : Rest := { A := r.A, s_0 := s, H_0 := H, env := cenv, outer := r.stack, stack := r.stack, ex := fp, pn := [] }
theorem vw_blk {r : Rest} {scope : Scope} (v : Vw S r) (s : Shared) (H : Hp) (C : Addr) (cl : List (Str × Addr)) (fp : List Addr) : Vw (S.blk scope) (blkRest r s H (compEnvC scope cl C r.env) fp) := by
  refine ⟨?_, v.room, v.nd, v.tb⟩
  show relabel scope r.env = relS scope S.sc
  rw [← v.sc]
  rfl
theorem lc_reading {ifs : List Expr} {scope : Scope} {own : List (Str × Nat)} {ws : List Nat} {ti : RI} {g : RG} {tt : RT} (hi : DI S tg iter ti) (hg : DG (S.blk scope) tg ws g) (ht : DTs (S.blk scope) ifs tt) (he : DE (S.blk scope) elt te)
    (hw : ∀ j, j ∈ ws → j ∈ own.map (·.2)) {τ : DSt} {h : DH} {Q : RK} (q : rLc ti g tt te (own.map (·.2)) τ h Q) {r : Rest} (v : Vw S r) {σ : L2.St} {H : Hp} {QV : VK} (hl : σ.length = S.N.length) (rs : RelS S.K h τ σ H) (kt : Kont S.K H τ σ Q QV) :
    tLc (iTop (S.cx r) tg iter) (fun v' σ H Q => ∀ r', Vw (S.blk scope) r' → gTop ((S.blk scope).cx r') tg v' σ H Q)
      (fun σ H Q => ∀ r', Vw (S.blk scope) r' → ∀ pins s, Inv ((S.blk scope).cx r') pins σ H s → wpAny (model S.P S.w) r'.A (forIn ifs true fun c r1 => if r1 = true then do let ok ← isTrue c r'.env (eval c r'.env); pure (ForInStep.yield ok) else pure (ForInStep.yield r1)) (TP ((S.blk scope).cx r') pins σ Q) (fun _ _ => False) s)
      (fun σ H Q => ∀ r', Vw (S.blk scope) r' → tTop ((S.blk scope).cx r') elt σ H Q) (own.map (·.2)) σ H QV := by
  refine hi.run τ h _ q r v σ H _ rs fun ds grd J h1 H1 e1 rs1 wk q1 => fun D nD => ?_
  have q1 := q1 D (rs1.ob.free nD)
  have eD : Ext H1 (upd H1 D (.lst [])) := .new nD
  have rD : RelS S.K (dupd h1 D (.lst [])) (wipeD τ (own.map (·.2))) (wipe σ (own.map (·.2))) (upd H1 D (.lst [])) := (rs1.to eD (RelH.newLst rs1.ob .nil nD)).wipe _
  refine ⟨fun i m H2 => m = ds.length - i ∧ i ≤ ds.length ∧ ∃ h2, Ext H1 H2 ∧ RelS S.K h2 (wipeD τ (own.map (·.2))) (wipe σ (own.map (·.2))) H2 ∧ dlc g tt te grd D (wipeD τ (own.map (·.2))) Q (ds.drop i) h2, ⟨ds.length, by simp, Nat.zero_le _, _, eD, rD, by simpa using q1⟩, ?_⟩
  rintro i m H2 ⟨rfl, hi', h2, e2, rs2, q2⟩
  have hgr := dlc_grd q2
  by_cases hlt : i < ds.length
  · rw [List.drop_eq_getElem_cons hlt] at q2
    refine .inr ⟨wk.go i h2 H2 e2 rs2.ob hgr hlt, fun H3 => ∃ h3, Ext H1 H3 ∧ RelS S.K h3 (wipeD τ (own.map (·.2))) (wipe σ (own.map (·.2))) H3 ∧ dlc g tt te grd D (wipeD τ (own.map (·.2))) Q (ds.drop (i + 1)) h3, ?_, ?_⟩
    · rintro H3 ⟨h3, e3, rs3, q3⟩
      exact ⟨ds.length - (i + 1), by omega, rfl, hlt, h3, e3, rs3, q3⟩
    · intro x H3 hy r1 v1
      obtain ⟨e3, rh3, d, hd, rd⟩ := wk.yld i h2 H2 x H3 e2 rs2.ob hgr hlt hy
      rw [List.getElem?_eq_getElem hlt] at hd
      cases hd
      have rs3 := rs2.to e3 rh3
      refine hg.run _ _ h2 _ q2.2 r1 v1 x _ H3 _ (by rw [wipe_length]; exact hl) rs3 rd fun τ4 h4 σ4 H4 e4 rs4 l4 t4 q4 => ⟨?_, fun r2 v2 => ?_⟩
      · refine wipe_same (l4.trans (wipe_length _ _)) fun j hj => ?_
        rw [t4 j fun z => hj (hw j z), wipe_get hj]
      · refine ht.run τ4 h4 _ q4 r2 v2 σ4 H4 _ rs4 fun b h5 H5 e5 rs5 q5 => ?_
        have e25 := ((e2.trans e3).trans e4).trans e5
        have keep : ∀ (h6 : DH) (H6 : Hp), Ext H1 H6 → RelH S.K h6 H6 → RelS S.K h6 (wipeD τ (own.map (·.2))) (wipe σ (own.map (·.2))) H6 := fun h6 H6 e6 o6 => (rs1.to e6 o6).wipe _
        cases b with
        | true =>
          refine iteT fun r3 v3 => ?_
          refine he.run τ4 h5 _ (q5.1 rfl) r3 v3 σ4 H5 _ rs5 fun dy y h6 H6 e6 rs6 rp6 q6 => ?_
          obtain ⟨acc, hp, hz, q6⟩ := q6
          obtain ⟨vs, f, rr⟩ := RelH.lst rs6.ob hp
          refine ⟨vs, f, by rw [← rr.length]; exact hz, _, (e25.trans e6).trans (.lst f), keep _ _ ((e25.trans e6).trans (.lst f)) (RelH.setLst rs6.ob hp f (rr.append (.one rp6))), q6⟩
        | false =>
          exact iteF ⟨h5, e25, keep _ _ e25 rs5.ob, q5.2 rfl⟩
  · obtain rfl : i = ds.length := by omega
    rw [List.drop_length] at q2
    refine .inl ⟨wk.stop h2 H2 e2 rs2.ob hgr, ?_⟩
    exact kt _ _ h2 H2 (e1.trans e2) (rs1.to e2 rs2.ob) (.ref D) q2.2
theorem de_lc {ifs : List Expr} {scope : Scope} {own : List (Str × Nat)} {ws : List Nat} {ti : RI} {g : RG} {tt : RT} (hi : DI S tg iter ti) (ok : blkC S.N S.sc scope own = true) (hg : DG (S.blk scope) tg ws g) (ht : DTs (S.blk scope) ifs tt) (he : DE (S.blk scope) elt te)
    (hw : ∀ j, j ∈ ws → j ∈ own.map (·.2)) (hs : ∀ env x, foldedSetIterable iter env x = pure x) : DE S (.ListComp elt [⟨tg, iter, ifs, 0⟩] scope pos) (rLc ti g tt te (own.map (·.2))) := by
  refine ⟨fun τ h Q q r v σ H QV rs kt pins s I => ?_⟩
  refine (pe_lc (X := S.cx r) (own := own) rfl v.nd piTop (by show BlkOk S.N r.env.scope scope own; rw [v.sc]; exact blkOk_by ok) ?_ ?_ ?_ (hs _)).run pins s σ H QV I (lc_reading hi hg ht he hw q v I.len rs kt)
  · exact fun s1 H1 C cl fp => ⟨fun pins s σ H w u Q I r1 h => h _ (vw_blk v s1 H1 C cl fp) pins s u I r1⟩
  · exact fun s1 H1 C cl fp => ⟨fun pins s σ H Q I h => h _ (vw_blk v s1 H1 C cl fp) pins s I⟩
  · exact fun s1 H1 C cl fp => ⟨fun pins s σ H Q I h => h _ (vw_blk v s1 H1 C cl fp) pins s I⟩
/-- name = [..] on one line -/
theorem ds_setLc {i : Nat} {y : Str} {py spos : Pos} {ifs : List Expr} {scope : Scope} {own : List (Str × Nat)} {ws : List Nat} {ti : RI} {g : RG} {tt : RT} (hy : S.N[i]? = some y) (hl : locI S.N S.sc (fun _ => false) i = true) (hln : (py.line == pos.line) = true) (hp : spos.line = pos.line ∨ True)
    (hsw : (scope.names.any fun (n, k) => n == y && (k == .local || k == .cell)) = false) (hk : S.sc.kind = .function) (hi : DI S tg iter ti) (ok : blkC S.N S.sc scope own = true) (hg : DG (S.blk scope) tg ws g) (ht : DTs (S.blk scope) ifs tt) (he : DE (S.blk scope) elt te)
    (hw : ∀ j, j ∈ ws → j ∈ own.map (·.2)) (hs : ∀ env x, foldedSetIterable iter env x = pure x) : DS S (.Assign [.Name y py] (.ListComp elt [⟨tg, iter, ifs, 0⟩] scope pos) spos) (rAsg (rLc ti g tt te (own.map (·.2))) (gNm i)) := by
  refine ⟨fun D τ h q r v σ H DV hlen rs kt pins s I => ?_⟩
  have ly : r.env.scope.names.lookup y = some .local := by rw [v.sc]; exact (locI_of hl hy).elim id fun z => by cases z.2
  refine (ps_setLc (X := S.cx r) (own := own) rfl v.nd hy ly (sw_true (by rw [v.sc]; exact hk) ly hln hsw) piTop (by show BlkOk S.N r.env.scope scope own; rw [v.sc]; exact blkOk_by ok) ?_ ?_ ?_ (hs _)).run pins s σ H DV I
    (lc_reading hi hg ht he hw q v hlen rs fun d w h1 H1 e1 rs1 rp1 q1 => kt.nx _ _ _ _ e1 (rs1.set (by rw [hlen]; exact (List.getElem?_eq_some_iff.mp hy).1) rp1) (by simpa using hlen) (by rw [← sto_eq]; exact q1))
  · exact fun s1 H1 C cl fp => ⟨fun pins s σ H w u Q I r1 h => h _ (vw_blk v s1 H1 C cl fp) pins s u I r1⟩
  · exact fun s1 H1 C cl fp => ⟨fun pins s σ H Q I h => h _ (vw_blk v s1 H1 C cl fp) pins s I⟩
  · exact fun s1 H1 C cl fp => ⟨fun pins s σ H Q I h => h _ (vw_blk v s1 H1 C cl fp) pins s I⟩
end

/-! ### a def by its body -/
def startD (N : List Str) (ds : List D) : DSt := ds.map some ++ List.replicate (N.length - ds.length) none

theorem start_rel {K : PySem.W.Frag} {h : DH} {H : Hp} (N : List Str) (rh : RelH K h H) : ∀ {ds : List D} {vs : List V}, Reps K H ds vs → RelS K h (startD N ds) (L2.start N vs) H := by
  intro ds vs r
  have hl := r.length
  refine ⟨fun i d q => ?_, rh⟩
  have lkm : ∀ (ds : List D) (n : Nat) (i : Nat) (d : D), lk (ds.map some ++ List.replicate n none) i = some d → ds[i]? = some d := by
    intro ds
    induction ds with
    | nil =>
      intro n i d q
      exfalso
      simp only [List.map_nil, List.nil_append] at q
      have : ∀ n i, lk (List.replicate n none) i = none := by
        intro n
        induction n with
        | zero => intro i; rfl
        | succ n ih => intro i; cases i with
          | zero => rfl
          | succ i => exact ih i
      rw [this] at q; cases q
    | cons x xs ih =>
      intro n i d q
      cases i with
      | zero => simp only [List.map_cons, List.cons_append, lk, Option.some.injEq] at q; simp [q]
      | succ i => simp only [List.map_cons, List.cons_append, lk] at q; simpa using ih n i d q
  obtain ⟨v, hv, rv⟩ := r.get (lkm ds _ i d q)
  refine ⟨v, ?_, rv⟩
  unfold L2.start
  have : i < vs.length := (List.getElem?_eq_some_iff.mp hv).1
  rw [List.getElem?_append_left (by simpa using this), List.getElem?_map, hv]; rfl
/-- the def of the text that stands at the global name -/
structure At (G : Gc) (x qual : Str) (st : Stmt) (f : Addr) (fd : FuncData) : Prop where
  fn : Fun G.K x qual st f fd
  mg : G.mg x = some (.ref f)
/-- what is told may be told otherwise -/
def Ent (K : PySem.W.Frag) (h h' : DH) : Prop := ∀ H, RelH K h H → RelH K h' H
theorem Ent.refl {K : PySem.W.Frag} (h : DH) : Ent K h h := fun _ r => r
theorem Ent.sub {K : PySem.W.Frag} {h h' : DH} (s : Sub h' h) : Ent K h h' := fun _ r => r.sub s
theorem Ent.trans {K : PySem.W.Frag} {h1 h2 h3 : DH} (a : Ent K h1 h2) (b : Ent K h2 h3) : Ent K h1 h3 := fun H r => b H (a H r)
def Out (K : PySem.W.Frag) (Q : RK) (d : D) (h' : DH) : Prop := ∃ h2, Ent K h' h2 ∧ Q d h2
@[reducible] def endsD (K : PySem.W.Frag) (Q : RK) : DEnds := { nx := fun _ h' => Out K Q .non h', rt := fun d h' => Out K Q d h' }
theorem fun_okc {P : Program} {w : World} {K : PySem.W.Frag} {mg : Str → Option Value} {base : Heap} {x qual : Str} {st : Stmt} {f : Addr} {fd : FuncData} {N ps : List Str} {k : Nat} {sp : Sp} (F : Fun K x qual st f fd) (S : FnScope N ps (defScope st)) (len : ∀ vs H Q E, sp vs H Q E → vs.length = ps.length)
    (hb : ∀ (cdv : Value), fd.code = cdv → ∀ (A : Around) (outer : List Env) (s : Shared) (H : Hp) (vs : List V) (Q : VK) (E : XK), Room k (A.deeper (envOfC qual (defScope st) s.heap.objs.size f cdv)) → sp vs H Q E →
      ∃ t, PSs (cxOf CX0 P w K mg base N qual (defScope st) f cdv A outer s H E).nox (defBody st) t ∧ t { nx := fun _ H' => Q .non H', rt := Q } (start N vs) H) : FnOk P w K mg base CX0 (k + 1) f fd ps sp := by
  obtain ⟨oc, od, kV, doc, pm, an, cdv, ct, osl, rfl, lk, hcd⟩ := F.ex
  exact fn_of lk hcd S len fun A outer s H vs Q E hr hsp => let ⟨t, h, q⟩ := hb cdv rfl A outer s H vs Q E hr hsp; ⟨t, h.nox, q⟩
theorem fnok_of {G : Gc} {x qual : Str} {st : Stmt} {f : Addr} {fd : FuncData} {N ps : List Str} {k : Nat} {sp : DSp} {t : RS} {tab : Option Addr} (F : Fun G.K x qual st f fd) (Sc : FnScope N ps (defScope st)) (len : ∀ ds h Q, sp ds h Q → ds.length = ps.length)
    (hb : DSs { G with N := N, sc := defScope st, k := k, fn := fun _ => true, tab := tab } (defBody st) t) (h : ∀ ds h Q, sp ds h Q → ∀ H, RelH G.K h H → ∃ h1, RelH G.K h1 H ∧ t (endsD G.K Q) (startD N ds) h1) (hT : ∀ P, tab = some P → ∃ c, GxR.TabB G.base G.mg c P ∧ fd.code = .ref c := by intro P e; cases e) :
    FnOk G.P G.w G.K G.mg G.base CX0 (k + 1) f fd ps (toSp G.K sp) := by
  refine fun_okc F Sc (fun vs H Q E hh => ?_) (fun cdv ecd A outer s H vs Q E hr hh => ?_)
  · obtain ⟨ds, h', Qd, rp, rh, q, _⟩ := hh
    rw [← rp.length]; exact len _ _ _ q
  · obtain ⟨ds, h', Qd, rp, rh, q, kq⟩ := hh
    obtain ⟨h1, rh1, q1⟩ := h ds h' Qd q H rh
    refine ⟨_, pssTop, fun pins s1 I => ?_⟩
    refine hb.run _ _ h1 q1 ⟨A.deeper (envOfC qual (defScope st) s.heap.objs.size f cdv), s, H, envOfC qual (defScope st) s.heap.objs.size f cdv, outer, envOfC qual (defScope st) s.heap.objs.size f cdv :: outer, [], []⟩ ⟨rfl, hr, Sc.nd, fun P e => let ⟨c, h1, h2⟩ := hT P e; ⟨c, h1, ecd.symm.trans h2⟩⟩ (L2.start N vs) H _ I.len (start_rel N rh1 rp) ?_ pins s1 I
    refine ⟨fun τ1 h1 σ1 H1 e1 rs1 l1 ⟨h2, en, q1⟩ => kq .non h2 .non H1 e1 (en _ rs1.ob) .non q1, fun d v h1 H1 e1 rh1 rp1 ⟨h2, en, q1⟩ => kq d h2 v H1 e1 (en _ rh1) rp1 q1, fun τ1 h1 σ1 H1 e1 rs1 l1 q1 => q1.elim, fun τ1 h1 σ1 H1 e1 rs1 l1 q1 => q1.elim⟩
theorem ddef_of {G : Gc} {x qual : Str} {st : Stmt} {f : Addr} {fd : FuncData} {N ps : List Str} {k : Nat} {sp : DSp} {t : RS} {tab : Option Addr} (F : At G x qual st f fd) (Sc : FnScope N ps (defScope st)) (hbn : Binds G.K fd ps []) (len : ∀ ds h Q, sp ds h Q → ds.length = ps.length)
    (hb : DSs { G with N := N, sc := defScope st, k := k, fn := fun _ => true, tab := tab } (defBody st) t) (h : ∀ ds h Q, sp ds h Q → t (endsD G.K Q) (startD N ds) h) (hT : ∀ P, tab = some P → ∃ c, GxR.TabB G.base G.mg c P ∧ fd.code = .ref c := by intro P e; cases e) : DDef G x (k + 1) sp :=
  ⟨f, fd, ps, fnok_of F.fn Sc len hb (fun ds h' Q q H r => ⟨h', r, h ds h' Q q⟩) hT, F.mg, F.fn.kp, hbn⟩
/-- .. where what is told at the start is told otherwise first -/
theorem ddef_ofH {G : Gc} {x qual : Str} {st : Stmt} {f : Addr} {fd : FuncData} {N ps : List Str} {k : Nat} {sp : DSp} {t : RS} {tab : Option Addr} (F : At G x qual st f fd) (Sc : FnScope N ps (defScope st)) (hbn : Binds G.K fd ps []) (len : ∀ ds h Q, sp ds h Q → ds.length = ps.length)
    (hb : DSs { G with N := N, sc := defScope st, k := k, fn := fun _ => true, tab := tab } (defBody st) t) (h : ∀ ds h Q, sp ds h Q → ∀ H, RelH G.K h H → ∃ h1, RelH G.K h1 H ∧ t (endsD G.K Q) (startD N ds) h1) (hT : ∀ P, tab = some P → ∃ c, GxR.TabB G.base G.mg c P ∧ fd.code = .ref c := by intro P e; cases e) : DDef G x (k + 1) sp :=
  ⟨f, fd, ps, fnok_of F.fn Sc len hb h hT, F.mg, F.fn.kp, hbn⟩
end DL
namespace DL
open PySem PySem.Spec PyProof.Rows L2
/-! ### enumerate of a tuple -/
theorem meets_enumerate_newB1 {v : Value} {o : Obj} {H : Heap → Prop} (B : Begins v o H) :
    Meets (Builtin.«enumerate.__new__» ⟨[.type "enumerate", v], []⟩) (fun _ R s => H s.heap ∧
      R (.ok (.ret (.ref (s.heap.push o).objs.size))) { s with heap := (s.heap.push o).push { cls := .type "enumerate", data := .fields #[.none, .bool false, .ref s.heap.objs.size, rawInt 0, .none, .none] } }) :=
  .of_wp fun prog w A R s h => by
    obtain ⟨hp, g, d, tk, os⟩ := s; obtain ⟨h1, h⟩ := h
    have hsub := sub_enumerate
    have q1 : ∀ {A' : Around} {E : Value → Shared → Prop} {Q : Value → Shared → Prop}, Q (.ref hp.objs.size) ⟨hp.push o, g, d, tk, os⟩ → wpAny (model prog w) A' (pyIter v) Q E ⟨hp, g, d, tk, os⟩ :=
      fun q => B.iter prog w _ _ ⟨hp, g, d, tk, os⟩ _ h1 q
    wp_walk using q1
    refine wpAny_stack_any fun st => wpAny_pure ?_
    split
    · rename_i c _ _ _ _ _
      cases (c == Value.type "enumerate")
      · wp_walk using q1
        exact ⟨_, rfl, h⟩
      · wp_walk using q1
        exact ⟨_, rfl, h⟩
    · wp_walk using q1
      exact ⟨_, rfl, h⟩
theorem call_enumerate_tuple {prog : Program} {w : World} {A : Around} {E : Value → Shared → Prop} {s : Shared} {l : Addr} {items : Array Value} {Q : Value → Shared → Prop} (hL : s.heap.IsTuple l items)
    (h : ∀ h', IsEnum h' (s.heap.objs.size + 1) s.heap.objs.size 0 .none → h'.IsTupleIter s.heap.objs.size l 0 → h'.objs.size = s.heap.objs.size + 2 →
      (∀ b o, s.heap.get? b = some o → h'.get? b = some o) → Q (.ref (s.heap.objs.size + 1)) { s with heap := h' }) :
    wpAny (model prog w) A (call (.type "enumerate") [.ref l]) Q E s := by
  refine callType_new F.called_enumerate (by decide) (F.typeCall_enumerate_1 _) (F.newCall_enumerate_1 _) (fun obj => F.args_object_init_2 obj _) F.entry_enumerate_new
    (meets_enumerate_newB1 (begins_tuple l items)) ⟨hL, ?_⟩
  have hz : (s.heap.push { cls := .type "tuple_iterator", data := .fields #[.ref l, .int 0 0] }).objs.size = s.heap.objs.size + 1 := Heap.size_push ..
  show _ ∧ _
  rw [hz]
  have he : IsEnum ((s.heap.push { cls := .type "tuple_iterator", data := .fields #[.ref l, .int 0 0] }).push
      { cls := .type "enumerate", data := .fields #[.none, .bool false, .ref s.heap.objs.size, rawInt 0, .none, .none] }) (s.heap.objs.size + 1) s.heap.objs.size 0 .none := by
    have := Heap.get?_push_size (s.heap.push { cls := .type "tuple_iterator", data := .fields #[.ref l, .int 0 0] })
      (o := { cls := .type "enumerate", data := .fields #[.none, .bool false, .ref s.heap.objs.size, rawInt 0, .none, .none] }) rfl
    rw [hz] at this; exact this
  refine ⟨⟨_, he, rfl⟩, h _ he ⟨_, Heap.get?_push_of_some _ (Heap.get?_push_size _ rfl), rfl, rfl⟩ (by rw [Heap.size_push, hz]) fun b o x => Heap.get?_push_of_some _ (Heap.get?_push_of_some _ x)⟩
/-- the tuple at a, each item in a new pair -/
def IteT (K : PySem.W.Frag) (a : Addr) : It :=
  ⟨fun i H => ∃ (xs : List V) (x : V), SqT K H a xs ∧ xs[i]? = some x, fun i H v H' => ∃ T x, v = .ref T ∧ H T = none ∧ H' = upd H T (.tup [.int (i : Nat), x]) ∧ ∀ xs, SqT K H a xs → xs[i]? = some x, fun i H => ∃ xs : List V, SqT K H a xs ∧ xs.length = i⟩
theorem turn_enumT {P : Program} {w : World} {K : PySem.W.Frag} {elts : List Expr} {kk : Nat} {tpos : Pos} (a e it : Addr) :
    Turn P w K (.Tuple elts kk tpos) (IteT K a) [e, it] e (fun i h => (∃ old, IsEnum h e it ((i : Nat) : Int) old) ∧ h.IsTupleIter it a i ∧ e ≠ it) where
  mem := by simp
  obj := fun i h st b hb => by
    obtain ⟨⟨old, he⟩, ⟨o, ho, hc, hd⟩, _⟩ := st
    have e' : b = e ∨ b = it := by simpa using hb
    rcases e' with z | z
    · rw [z]; exact ⟨_, he, fun v q => nomatch q⟩
    · rw [z]; exact ⟨o, ho, fun v q => by rw [hd] at q; cases q⟩
  keep := fun i h h' st k => let ⟨⟨old, he⟩, hi, hne⟩ := st; ⟨⟨old, k e (by simp) _ he⟩, hi.at fun o q => k it (by simp) o q, hne⟩
  item := by
    intro X hP hw hK hc i pins s σ H E I hf st hg
    subst hP hw hK
    obtain ⟨⟨old, he⟩, hit, hne⟩ := st
    obtain ⟨xs, x, hq, hx⟩ := hg
    obtain ⟨its, rv, p, hz⟩ := I.tuple hq
    obtain ⟨u, hu, ru⟩ := rv.get hx
    have hel : e < s.heap.objs.size := Heap.lt_size he
    have hil : it < s.heap.objs.size := by obtain ⟨_, q, _⟩ := hit; exact Heap.lt_size q
    have pT : s.heap.IsTuple a its.toArray := p
    have hai : a ≠ it := by
      rintro rfl
      obtain ⟨o1, h1, c1, _⟩ := pT
      obtain ⟨o2, h2, c2, _⟩ := hit
      rw [h1] at h2; cases h2; rw [c1] at c2; exact absurd c2 (by decide)
    have hae : e ≠ a := by
      rintro rfl
      obtain ⟨o1, h1, c1, _⟩ := pT
      unfold IsEnum at he
      rw [h1] at he; cases he; exact absurd (show Value.type "enumerate" = Value.type "tuple" from c1) (by decide)
    have hlen : i < its.toArray.size := by have := (List.getElem?_eq_some_iff.mp hu).1; simpa using this
    refine wpAny_pyNext_enum_itemD (Draws.tuple (show X.A.in1.handled = none from I.ok.hd hc) it a hai its.toArray) he ⟨hit, pT⟩ hlen hne (by simp [hne, hae]) fun u' h' tk hP ho hst' hT hsz hk => ?_
    have hu' : u' = u := by
      have : its.toArray[i]? = some u := by simpa using hu
      rw [this] at hP; exact (Option.some.inj hP).symm
    subst hu'
    refine ⟨_, rfl, wpAny_letOwnedTupleGo_enum (s := { s with heap := h', toks := tk + 1 }) ho fun h'' he' sb => ?_⟩
    have hT2 : h''.get? s.heap.objs.size = some { cls := .type "tuple", data := .seq #[.int i tk, u'] } := (sb.2 _ (Nat.ne_of_gt hel)).trans hT
    have new : ObjOk X.prog X.w (upd H s.heap.objs.size (.tup [.int (i : Nat), x])) h'' s.heap.objs.size (.tup [.int (i : Nat), x]) :=
      ⟨by show 2 ≤ sizeLine; decide, [.int i tk, u'], .cons ⟨_, rfl⟩ (.cons ru .nil), ⟨_, hT2, rfl, _, rfl⟩⟩
    have I1 : Inv X pins σ (upd H s.heap.objs.size (.tup [.int (i : Nat), x])) { s with heap := h'', toks := tk + 1 } :=
      I.turnedNew (ch := [e, it]) (fun b ob hb q => (sb.2 b (fun z => hb (by simp [z]))).trans (hk b ob (fun z => hb (by simp [z])) (fun z => hb (by simp [z])) q)) hf (Nat.le_refl _) new
    refine ⟨.ref s.heap.objs.size, _, I1, rfl, ⟨_, x, rfl, I.hok.fresh (Nat.le_refl _), rfl, fun ys hy => by rw [I.tuple_inj hy hq]; exact hx⟩, ⟨⟨u', ?_⟩, hst'.1.at fun o q => (sb.2 it (Ne.symm hne)).trans q, hne⟩, fun b hb => ?_⟩
    · have e1 : ((i + 1 : Nat) : Int) = (i : Int) + 1 := by omega
      rw [e1]; exact he'
    · have hb' : b < s.heap.objs.size := by
        have e' : b = e ∨ b = it := by simpa using hb
        rcases e' with z | z
        · rw [z]; exact hel
        · rw [z]; exact hil
      rw [upd_ne (Nat.ne_of_lt hb')]
      exact (hf b hb).1
  done := by
    intro X hP hw hK hc i pins s σ H E I hf st hg
    subst hP hw hK
    obtain ⟨⟨old, he⟩, hit, hne⟩ := st
    obtain ⟨xs, hq, hx⟩ := hg
    obtain ⟨its, rv, p, hz⟩ := I.tuple hq
    obtain ⟨f0, f1, f2, f3, f4, f5⟩ := hf it (by simp)
    have hl := rv.length
    have pT : s.heap.IsTuple a its.toArray := p
    have hai : a ≠ it := by
      rintro rfl
      obtain ⟨o1, h1, c1, _⟩ := pT
      obtain ⟨o2, h2, c2, _⟩ := hit
      rw [h1] at h2; cases h2; rw [c1] at c2; exact absurd c2 (by decide)
    have hl2 : its.toArray.size = i := by simp; omega
    refine wpAny_pyNext_enum_endD (Draws.tuple (show X.A.in1.handled = none from I.ok.hd hc) it a hai its.toArray) he ⟨by rw [hl2]; exact hit, pT⟩ fun h' eb => ⟨rfl, I.turned (t' := s.toks) (fun b o hb q => eb b o hb q) f0 f1 f3 f4 f5⟩
  self := fun A i s Q E st h => let ⟨⟨_, he⟩, _⟩ := st; wpAny_pyIter_enum he h

/-- the items of enumerate -/
def enumD : Nat → List D → List D
  | _, [] => []
  | n, d :: ds => .tup [.int (n : Int), d] :: enumD (n + 1) ds
theorem enumD_length : ∀ (n : Nat) (ds : List D), (enumD n ds).length = ds.length
  | _, [] => rfl
  | n, _ :: ds => congrArg (· + 1) (enumD_length (n + 1) ds)
theorem enumD_get : ∀ (n : Nat) (ds : List D) (i : Nat) (d : D), ds[i]? = some d → (enumD n ds)[i]? = some (.tup [.int ((n + i : Nat) : Int), d])
  | _, [], i, d, h => by simp at h
  | n, x :: ds, 0, d, h => by simp at h; simp [enumD, h]
  | n, x :: ds, i + 1, d, h => by
    have := enumD_get (n + 1) ds i d (by simpa using h)
    simp only [enumD, List.getElem?_cons_succ, this]
    congr 5; omega
section
variable {S : Sta} {pos p : Pos} {a b c e o tg iter elt : Expr} {ua : RA} {elts : List Expr} {kk : Nat} {tpos : Pos}
@[reducible] def rEnum (ua : RA) : RI := fun τ h R => ua τ h fun ds h1 => match ds with
  | [.tup es] => R (enumD 0 es) (fun _ => True) h1
  | [.ref p] => ∃ es, h1 p = some (.lst es) ∧ R (enumD 0 es) (fun h' => h' p = some (.lst es)) h1
  | _ => False
theorem pairRep {K : PySem.W.Frag} {H : Hp} {T : Addr} {d e : D} {v u : V} (n : H T = none) (r1 : Rep K H d v) (r2 : Rep K H e u) : Rep K (upd H T (.tup [v, u])) (.tup [d, e]) (.ref T) :=
  .tup (SqT.of upd_same) (.cons (r1.ext (.new n)) (.cons (r2.ext (.new n)) .nil))
theorem di_enum (hg : glbI S.sc "enumerate" = true) (hm : S.mg "enumerate" = none) (ha : DA S [e] ua) (hs : ∀ env, starEach [e] env = [(false, eval e env)]) : DI S (.Tuple elts kk tpos) (.Call (.Name "enumerate" p) [e] [] pos) (rEnum ua) := by
  refine ⟨fun τ h R q r v σ H RV rs kt pins s I => ?_⟩
  refine Call_ (ld_blt I (gl_of v hg) hm boot_enumerate (PyProof.Rows.callWith_type1 (thn (ha.run τ h _ q r v σ H (fun vs H1 => ∃ ds h1, Ext H H1 ∧ RelS S.K h1 τ σ H1 ∧ Reps S.K H1 ds vs ∧ (match ds with
    | [.tup es] => R (enumD 0 es) (fun _ => True) h1
    | [.ref p] => ∃ es, h1 p = some (.lst es) ∧ R (enumD 0 es) (fun h' => h' p = some (.lst es)) h1
    | _ => False)) rs (fun ds vs h1 H1 e1 rs1 rp1 q1 => ⟨ds, h1, e1, rs1, rp1, q1⟩) pos pins s I) fun us s1 ⟨vs, H1, I1, r1, ds, h1, e1, rs1, rp1, q1⟩ => ?_) (hs _) rfl))
  have fpo : ∀ b ∈ [s1.heap.objs.size + 1, s1.heap.objs.size], FpOk (S.cx r) pins H1 b := fun b hb => by
    have e' : b = s1.heap.objs.size + 1 ∨ b = s1.heap.objs.size := by simpa using hb
    have hle : s1.heap.objs.size ≤ b := by
      rcases e' with z | z
      · rw [z]; exact Nat.le_add_right _ _
      · rw [z]; exact Nat.le_refl _
    exact I1.fpOk hle (I1.hok.fresh hle)
  split at q1
  · rename_i es
    obtain ⟨w, rfl, rw1⟩ := reps1 rp1
    cases rw1 with | tup hq rr =>
    rename_i t vs
    obtain ⟨u0, rfl, ra⟩ := vals1 r1
    cases ra
    obtain ⟨its, rv, p', hz⟩ := I1.tuple hq
    refine call_enumerate_tuple (show s1.heap.IsTuple t its.toArray from p') fun h' he hit hsz hk => wpAny_pyIter_enum he ?_
    have I2 : Inv (S.cx r) pins σ H1 { s1 with heap := h' } := I1.kept (t' := s1.toks) hk
    have wk : Walks S.K H1 (IteT S.K t) (enumD 0 es) (fun _ => True) := by
      refine ⟨fun i h2 H2 e2 rh g hi => ?_, fun h2 H2 e2 rh g => ?_, fun i h2 H2 z H3 e2 rh g hi hy => ?_⟩
      · rw [enumD_length] at hi
        have : i < vs.length := by rw [← rr.length]; exact hi
        exact ⟨vs, vs[i], sqT_ext e2 hq, List.getElem?_eq_getElem this⟩
      · exact ⟨vs, sqT_ext e2 hq, by rw [enumD_length, rr.length]⟩
      · obtain ⟨T, x, rfl, n, rfl, hy⟩ := hy
        obtain ⟨d, h1, h2⟩ := (rr.ext e2).getV (hy vs (sqT_ext e2 hq))
        refine ⟨.new n, rh.new n, _, enumD_get 0 es i d h1, ?_⟩
        rw [Nat.zero_add]
        exact pairRep n (.int _) h2
    exact ⟨s1.heap.objs.size + 1, [s1.heap.objs.size + 1, s1.heap.objs.size], _, _, H1, rfl, I2, turn_enumT t (s1.heap.objs.size + 1) s1.heap.objs.size, ⟨⟨.none, he⟩, hit, Nat.succ_ne_self _⟩, fpo, kt _ _ _ _ _ e1 rs1 wk q1⟩
  · rename_i t
    obtain ⟨es, hp, q1⟩ := q1
    obtain ⟨w, rfl, rw1⟩ := reps1 rp1
    cases rw1
    obtain ⟨u0, rfl, ra⟩ := vals1 r1
    cases ra
    obtain ⟨vs, f, rr⟩ := RelH.lst rs1.ob hp
    obtain ⟨its, rv, p', hz⟩ := I1.list (SqL.of f)
    refine call_enumerate_list p'.isList fun h' he hit hsz hk => wpAny_pyIter_enum he ?_
    have I2 : Inv (S.cx r) pins σ H1 { s1 with heap := h' } := I1.kept (t' := s1.toks) hk
    have wk : Walks S.K H1 (Ite S.K t) (enumD 0 es) (fun h' => h' t = some (.lst es)) := by
      refine ⟨fun i h2 H2 e2 rh g hi => ?_, fun h2 H2 e2 rh g => ?_, fun i h2 H2 z H3 e2 rh g hi hy => ?_⟩
      · obtain ⟨us, f2, r2⟩ := RelH.lst rh g
        rw [enumD_length] at hi
        have : i < us.length := by rw [← r2.length]; exact hi
        exact ⟨us, us[i], SqL.of f2, List.getElem?_eq_getElem this⟩
      · obtain ⟨us, f2, r2⟩ := RelH.lst rh g
        exact ⟨us, SqL.of f2, by rw [enumD_length, r2.length]; exact Nat.le_refl _⟩
      · obtain ⟨T, x, rfl, n, rfl, hy⟩ := hy
        obtain ⟨us, f2, r2⟩ := RelH.lst rh g
        obtain ⟨d, h1, h2⟩ := r2.getV (hy us (SqL.of f2))
        refine ⟨.new n, rh.new n, _, enumD_get 0 es i d h1, ?_⟩
        rw [Nat.zero_add]
        exact pairRep n (.int _) h2
    exact ⟨s1.heap.objs.size + 1, [s1.heap.objs.size + 1, s1.heap.objs.size], _, _, H1, rfl, I2, turn_enum t (s1.heap.objs.size + 1) s1.heap.objs.size, ⟨⟨.none, he⟩, hit, Nat.succ_ne_self _⟩, fpo, kt _ _ _ _ _ e1 rs1 wk q1⟩
  · exact q1.elim
end
/-! ### short names for the printer -/
abbrev rSub : D → D → DH → RK → Prop := rInt0 fun i j => .int (i - j)
abbrev rMul : D → D → DH → RK → Prop := rInt CMul fun i j => .int (i * j)
abbrev rFdiv : D → D → DH → RK → Prop := rInt CDiv fun i j => .int (i / j)
abbrev rMod : D → D → DH → RK → Prop := rInt (fun _ j => 0 < j) fun i j => .int (i % j)
abbrev rPow : D → D → DH → RK → Prop := rInt CPow fun i j => .int (i ^ j.toNat)
abbrev rLt : D → D → DH → RK → Prop := rInt0 fun i j => .bl (decide (i < j))
abbrev rLe : D → D → DH → RK → Prop := rInt0 fun i j => .bl (decide (i ≤ j))
abbrev rGt : D → D → DH → RK → Prop := rInt0 fun i j => .bl (decide (j < i))
abbrev rGe : D → D → DH → RK → Prop := rInt0 fun i j => .bl (decide (j ≤ i))
abbrev rIsN : D → D → DH → RK → Prop := rIs false
abbrev rIsnot : D → D → DH → RK → Prop := rIs true
end DL
namespace DL
open PySem PySem.Spec PyProof.Rows L2
/-! ### heaps: what is where -/
theorem dupd_none {h : DH} {a p : Addr} {o : DO} : dupd h a o p = none ↔ p ≠ a ∧ h p = none := by
  constructor
  · intro e
    by_cases q : p = a
    · subst q; rw [dupd_same] at e; cases e
    · exact ⟨q, by rw [dupd_ne q] at e; exact e⟩
  · rintro ⟨a, b⟩; rw [dupd_ne a]; exact b
theorem ne_sn {h : DH} {a p : Addr} {o : DO} (e : h a = some o) (n : h p = none) : a ≠ p := fun z => by rw [z, n] at e; cases e
theorem ne_oo {h : DH} {a p : Addr} {o o' : DO} (e : h a = some o) (n : h p = some o') (d : o ≠ o') : a ≠ p := fun z => by rw [z, n] at e; cases e; exact d rfl
theorem Sub.up {h h' : DH} {p : Addr} {o : DO} (s : Sub h h') (n : h p = none) : Sub h (dupd h' p o) := fun a u e => by
  rw [dupd_ne (ne_sn e n)]; exact s a u e
theorem Sub.put {h h' : DH} {p : Addr} {o : DO} (s : ∀ a, a ≠ p → ∀ u, h a = some u → h' a = some u) (e : h' p = some o) : Sub (dupd h p o) h' := fun a u q => by
  by_cases z : a = p
  · subst z; rw [dupd_same] at q; cases q; exact e
  · rw [dupd_ne z] at q; exact s a z u q
theorem Sub.mono {h h' : DH} {p : Addr} {o : DO} (s : Sub h h') : Sub (dupd h p o) (dupd h' p o) := fun a u q => by
  by_cases z : a = p
  · subst z; rw [dupd_same] at q ⊢; exact q
  · rw [dupd_ne z] at q ⊢; exact s a u q
/-- the box of draws -/
def BoxAt (h : DH) (b : Addr) : Prop := ∃ dl, h b = some (.box dl) ∧ h dl = some .hid
theorem RelH.unbox {K : PySem.W.Frag} {h : DH} {H : Hp} (r : RelH K h H) {p dl : Addr} (hp : h p = some (.box dl)) (hd : h dl = some .hid) :
    ∃ (t : Nat) (ds : List D) (ns : List Int), RelH K (dupd (dupd h p (.lst (.ref dl :: .int (t : Int) :: ds))) dl (.lst (ns.map D.int))) H := by
  obtain ⟨t, vs, ds, f, rr⟩ := r p _ hp
  obtain ⟨ns, g⟩ := r dl _ hd
  refine ⟨t, ds, ns, fun a o e => ?_⟩
  by_cases z1 : a = dl
  · subst z1
    rw [dupd_same] at e; cases e
    exact ⟨_, g, Reps.ofInts ns⟩
  · rw [dupd_ne z1] at e
    by_cases z2 : a = p
    · subst z2
      rw [dupd_same] at e; cases e
      exact ⟨_, f, .cons (.ref dl) (.cons (.int _) rr)⟩
    · rw [dupd_ne z2] at e
      exact (r a o e).move (.refl _) rfl
theorem Ent.box {K : PySem.W.Frag} {h h0 : DH} {p dl : Addr} {t : Nat} {ds : List D} {ns : List Int} (hp : h p = some (.lst (.ref dl :: .int (t : Int) :: ds))) (hd : h dl = some (.lst (ns.map D.int))) (ne : dl ≠ p)
    (s : ∀ a u, a ≠ p → a ≠ dl → h0 a = some u → h a = some u) : Ent K h (dupd (dupd h0 p (.box dl)) dl .hid) := fun H r => by
  intro a o e
  by_cases z1 : a = dl
  · subst z1
    rw [dupd_same] at e; cases e
    obtain ⟨us, g, r2⟩ := RelH.lst r hd
    exact ⟨ns, by rw [g, r2.ints]⟩
  · rw [dupd_ne z1] at e
    by_cases z : a = p
    · subst z
      rw [dupd_same] at e; cases e
      obtain ⟨vs, f, rr⟩ := RelH.lst r hp
      cases rr with | cons r1 rr => cases rr with | cons r2' rr =>
      cases r1; cases r2'
      exact ⟨t, _, ds, f, rr⟩
    · rw [dupd_ne z] at e
      exact (r a o (s a o z z1 e)).move (.refl _) rfl

/-! ### loops by what holds -/
theorem dfor_inv {g : RG} {tb : RS} {grd : DH → Prop} {D : DEnds} {τ : DSt} {h : DH} (xs : List DL.D) (I : Nat → DSt → DH → Prop) (h0 : I 0 τ h) (hg : ∀ i τ h, I i τ h → grd h)
    (hs : ∀ i x τ h (N : DSt → DH → Prop), xs[i]? = some x → I i τ h → (∀ τ' h', I (i + 1) τ' h' → N τ' h') → g x τ h fun τ' h' => tb { nx := N, rt := D.rt, bk := D.nx, ct := N } τ' h')
    (hd : ∀ τ h, I xs.length τ h → D.nx τ h) : dfor g tb grd D xs τ h := by
  have aux : ∀ (suf pre : List DL.D) τ h, pre ++ suf = xs → I pre.length τ h → dfor g tb grd D suf τ h := by
    intro suf
    induction suf with
    | nil =>
      intro pre τ h e i
      rw [List.append_nil] at e
      subst e
      exact ⟨hg _ _ _ i, hd _ _ i⟩
    | cons x suf ih =>
      intro pre τ h e i
      refine ⟨hg _ _ _ i, hs pre.length x τ h _ (by rw [← e]; simp) i fun τ' h' i' => ?_⟩
      exact ih (pre ++ [x]) τ' h' (by rw [← e]; simp) (by simpa using i')
  exact aux xs [] τ h rfl h0
/-- over a range -/
theorem dfor_rng {g : RG} {tb : RS} {grd : DH → Prop} {D : DEnds} {τ : DSt} {h : DH} {lo : Int} {n : Nat} (I : Nat → DSt → DH → Prop) (h0 : I 0 τ h) (hg : ∀ i τ h, I i τ h → grd h)
    (hs : ∀ (i : Nat) τ h (N : DSt → DH → Prop), i < n → I i τ h → (∀ τ' h', I (i + 1) τ' h' → N τ' h') → g (.int (lo + (i : Int))) τ h fun τ' h' => tb { nx := N, rt := D.rt, bk := D.nx, ct := N } τ' h')
    (hd : ∀ τ h, I n τ h → D.nx τ h) : dfor g tb grd D (rngD lo n) τ h := by
  refine dfor_inv _ I h0 hg (fun i x τ h N hx hi hn => ?_) (fun τ h hi => hd τ h (by rw [rngD_len] at hi; exact hi))
  have hlt : i < n := by have := (List.getElem?_eq_some_iff.mp hx).1; rw [rngD_len] at this; exact this
  rw [rngD_get hlt] at hx
  cases hx
  exact hs i τ h N hlt hi hn
/-- over a list that is told by another -/
theorem dfor_map {α : Type} {g : RG} {tb : RS} {grd : DH → Prop} {D : DEnds} {τ : DSt} {h : DH} {f : α → DL.D} {as : List α} (I : List α → DSt → DH → Prop) (h0 : I [] τ h) (hg : ∀ i τ h, I i τ h → grd h)
    (hs : ∀ (pre : List α) (a : α) (post : List α) τ h (N : DSt → DH → Prop), as = pre ++ a :: post → I pre τ h → (∀ τ' h', I (pre ++ [a]) τ' h' → N τ' h') → g (f a) τ h fun τ' h' => tb { nx := N, rt := D.rt, bk := D.nx, ct := N } τ' h')
    (hd : ∀ τ h, I as τ h → D.nx τ h) : dfor g tb grd D (as.map f) τ h := by
  have aux : ∀ (suf pre : List α) τ h, as = pre ++ suf → I pre τ h → dfor g tb grd D (suf.map f) τ h := by
    intro suf
    induction suf with
    | nil =>
      intro pre τ h e i
      rw [List.append_nil] at e
      subst e
      exact ⟨hg _ _ _ i, hd _ _ i⟩
    | cons x suf ih =>
      intro pre τ h e i
      refine ⟨hg _ _ _ i, hs pre x suf τ h _ e i fun τ' h' i' => ?_⟩
      exact ih (pre ++ [x]) τ' h' (by rw [e]; simp) i'
  exact aux as [] τ h rfl h0
/-- over enumerate of such a list -/
theorem dfor_enum {α : Type} {g : RG} {tb : RS} {grd : DH → Prop} {D : DEnds} {τ : DSt} {h : DH} {f : α → DL.D} {as : List α} (I : Nat → DSt → DH → Prop) (h0 : I 0 τ h) (hg : ∀ i τ h, I i τ h → grd h)
    (hs : ∀ (i : Nat) (a : α) τ h (N : DSt → DH → Prop), as[i]? = some a → I i τ h → (∀ τ' h', I (i + 1) τ' h' → N τ' h') → g (.tup [.int (i : Int), f a]) τ h fun τ' h' => tb { nx := N, rt := D.rt, bk := D.nx, ct := N } τ' h')
    (hd : ∀ τ h, I as.length τ h → D.nx τ h) : dfor g tb grd D (enumD 0 (as.map f)) τ h := by
  refine dfor_inv _ I h0 hg (fun i x τ h N hx hi hn => ?_) (fun τ h hi => hd τ h (by rw [enumD_length, List.length_map] at hi; exact hi))
  have hlt : i < as.length := by have := (List.getElem?_eq_some_iff.mp hx).1; rw [enumD_length, List.length_map] at this; exact this
  rw [enumD_get 0 (as.map f) i (f as[i]) (by simp [hlt]), Nat.zero_add] at hx
  cases hx
  exact hs i as[i] τ h N (List.getElem?_eq_getElem hlt) hi hn
theorem dfor_rng0 {g : RG} {tb : RS} {grd : DH → Prop} {D : DEnds} {τ : DSt} {h : DH} {n : Nat} (I : Nat → DSt → DH → Prop) (h0 : I 0 τ h) (hg : ∀ i τ h, I i τ h → grd h)
    (hs : ∀ (i : Nat) τ h (N : DSt → DH → Prop), i < n → I i τ h → (∀ τ' h', I (i + 1) τ' h' → N τ' h') → g (.int (i : Int)) τ h fun τ' h' => tb { nx := N, rt := D.rt, bk := D.nx, ct := N } τ' h')
    (hd : ∀ τ h, I n τ h → D.nx τ h) : dfor g tb grd D (rngD 0 n) τ h :=
  dfor_rng I h0 hg (fun i τ h N hi hI hN => by rw [Int.zero_add]; exact hs i τ h N hi hI hN) hd
/-- a comprehension whose parts leave the heap as it is -/
theorem dlc_map {α : Type} {g : RG} {tt : RT} {te : RE} {grd : DH → Prop} {p : Addr} {τ : DSt} {Q : RK} {h : DH} {inj : α → D} {as : List α} (f : α → Option D) (hl : as.length < sizeLine) (hg : ∀ acc, grd (dupd h p (.lst acc)))
    (hs : ∀ a, a ∈ as → ∀ (acc : List D) (Y : RK) (N : DH → Prop), (∀ y, f a = some y → Y y (dupd h p (.lst acc))) → (f a = none → N (dupd h p (.lst acc))) →
      g (inj a) τ (dupd h p (.lst acc)) fun τ2 h2 => tt τ2 h2 fun b h3 => Br b (te τ2 h3 Y) (N h3))
    (hd : Q (.ref p) (dupd h p (.lst (as.filterMap f)))) : dlc g tt te grd p τ Q (as.map inj) (dupd h p (.lst [])) := by
  have aux : ∀ (suf pre : List α), as = pre ++ suf → dlc g tt te grd p τ Q (suf.map inj) (dupd h p (.lst (pre.filterMap f))) := by
    intro suf
    induction suf with
    | nil =>
      intro pre e
      rw [List.append_nil] at e
      subst e
      exact ⟨hg _, hd⟩
    | cons x suf ih =>
      intro pre e
      have next := ih (pre ++ [x]) (by rw [e]; simp)
      refine ⟨hg _, ?_⟩
      refine hs x (by rw [e]; simp) (pre.filterMap f) (fun y h4 => ∃ acc, h4 p = some (.lst acc) ∧ acc.length < sizeLine ∧ dlc g tt te grd p τ Q (suf.map inj) (dupd h4 p (.lst (acc ++ [y])))) _ (fun y hy => ?_) (fun hn => ?_)
      · refine ⟨_, dupd_same, ?_, ?_⟩
        · have h1 := List.length_filterMap_le f pre
          have h2 : pre.length < as.length := by rw [e]; simp
          omega
        · rw [dupd_dupd]
          have e2 : (pre ++ [x]).filterMap f = pre.filterMap f ++ [y] := by simp [hy]
          rw [← e2]; exact next
      · have e2 : (pre ++ [x]).filterMap f = pre.filterMap f := by simp [hn]
        rw [← e2]; exact next
  exact aux as [] rfl
theorem dlc_rng {g : RG} {tt : RT} {te : RE} {grd : DH → Prop} {p : Addr} {τ : DSt} {Q : RK} {h : DH} {lo : Int} {n : Nat} (f : Nat → Option D) (hl : n < sizeLine) (hg : ∀ acc, grd (dupd h p (.lst acc)))
    (hs : ∀ (i : Nat), i < n → ∀ (acc : List D) (Y : RK) (N : DH → Prop), (∀ y, f i = some y → Y y (dupd h p (.lst acc))) → (f i = none → N (dupd h p (.lst acc))) →
      g (.int (lo + (i : Int))) τ (dupd h p (.lst acc)) fun τ2 h2 => tt τ2 h2 fun b h3 => Br b (te τ2 h3 Y) (N h3))
    (hd : Q (.ref p) (dupd h p (.lst ((List.range n).filterMap f)))) : dlc g tt te grd p τ Q (rngD lo n) (dupd h p (.lst [])) :=
  dlc_map (as := List.range n) (inj := fun (i : Nat) => D.int (lo + (i : Int))) f (by simpa using hl) hg (fun a ha => hs a (List.mem_range.mp ha)) hd

theorem dlc_rng0 {g : RG} {tt : RT} {te : RE} {grd : DH → Prop} {p : Addr} {τ : DSt} {Q : RK} {h : DH} {n : Nat} (f : Nat → Option D) (hl : n < sizeLine) (hg : ∀ acc, grd (dupd h p (.lst acc)))
    (hs : ∀ (i : Nat), i < n → ∀ (acc : List D) (Y : RK) (N : DH → Prop), (∀ y, f i = some y → Y y (dupd h p (.lst acc))) → (f i = none → N (dupd h p (.lst acc))) →
      g (.int (i : Int)) τ (dupd h p (.lst acc)) fun τ2 h2 => tt τ2 h2 fun b h3 => Br b (te τ2 h3 Y) (N h3))
    (hd : Q (.ref p) (dupd h p (.lst ((List.range n).filterMap f)))) : dlc g tt te grd p τ Q (rngD 0 n) (dupd h p (.lst [])) :=
  dlc_rng f hl hg (fun i hi acc Y N hY hN => by rw [Int.zero_add]; exact hs i hi acc Y N hY hN) hd
/-! ### places -/
theorem ixN_lt {n i : Nat} (h : i < n) : ixN n (i : Int) = some i := by
  unfold ixN; rw [if_pos (Int.natCast_nonneg i), if_pos (by omega)]; rfl
theorem atI_lt {α : Type} {xs : List α} {i : Nat} {v : α} (h : xs[i]? = some v) : L2.atI xs (i : Int) = some v := L2.atI_nat h
theorem atI_at {α : Type} {xs : List α} {k : Int} {i : Nat} {v : α} (e : k = (i : Int)) (h : xs[i]? = some v) : L2.atI xs k = some v := by rw [e]; exact L2.atI_nat h
theorem atI_neg {α : Type} {xs : List α} {k : Int} {i : Nat} {v : α} (e : k + xs.length = (i : Int)) (hk : k < 0) (h : xs[i]? = some v) : L2.atI xs k = some v := by
  unfold L2.atI ixN
  rw [if_neg (by omega), if_pos (by omega)]
  have : (k + (xs.length : Int)).toNat = i := by omega
  rw [this]; exact h
theorem atI_mapD {α : Type} {f : α → D} {xs : List α} {k : Int} {v : α} {i : Nat} (e : k = (i : Int)) (h : xs[i]? = some v) : L2.atI (xs.map f) k = some (f v) := by
  rw [atI_map, atI_at e h]; rfl
theorem atI_ints {ms : List Int} {k : Int} (h0 : 0 ≤ k) (h1 : k < ms.length) : L2.atI (ms.map D.int) k = some (.int (ms.getD k.toNat 0)) := by
  have hk : k.toNat < ms.length := by omega
  rw [atI_map, atI_at (i := k.toNat) (by omega) (List.getElem?_eq_getElem hk)]
  simp [hk]
theorem atI_intsN {ms : List Int} {k : Int} (h0 : k < 0) (h1 : 0 ≤ k + ms.length) : L2.atI (ms.map D.int) k = some (.int (ms.getD (k + ms.length).toNat 0)) := by
  have hk : (k + (ms.length : Int)).toNat < ms.length := by omega
  rw [atI_map, atI_neg (i := (k + (ms.length : Int)).toNat) (by omega) h0 (List.getElem?_eq_getElem hk)]
  simp [hk]
theorem atI_last {ms : List Int} (h : ms ≠ []) : L2.atI (ms.map D.int) (-1) = some (.int (ms.getLastD 0)) := by
  have hl : 0 < ms.length := List.length_pos_iff.mpr h
  rw [atI_intsN (by decide) (by omega)]
  congr 2
  have : ((-1 : Int) + (ms.length : Int)).toNat = ms.length - 1 := by omega
  rw [this]
  cases ms with
  | nil => exact absurd rfl h
  | cons a r => simp [List.getLastD, List.getLast_eq_getElem, List.getD]
theorem Sub.up2 {h h' : DH} {p : Addr} {o : DO} (n : h p = none) (s : Sub h h') : Sub h (dupd h' p o) := s.up n
theorem Sub.up2' {h h' : DH} {p q : Addr} {o u : DO} (s : Sub h h') (n : h' p = none) (m : dupd h' p o q = none) : Sub h (dupd (dupd h' p o) q u) := by
  have hn : h p = none := by
    cases z : h p with
    | none => rfl
    | some x => rw [s p x z] at n; cases n
  have hm : h q = none := by
    cases z : h q with
    | none => rfl
    | some x => have m2 := (dupd_none.mp m).2; rw [s q x z] at m2; cases m2
  exact (s.up hn).up hm
theorem Sub.free {h h' : DH} {p : Addr} (s : Sub h h') (n : h' p = none) : h p = none := by
  cases z : h p with
  | none => rfl
  | some x => rw [s p x z] at n; cases n
theorem Sub.up3 {h h' : DH} {p : Addr} {o : DO} (s : Sub h h') (n : h' p = none) : Sub h (dupd h' p o) := s.up (s.free n)
theorem out {K : PySem.W.Frag} {Q : RK} {d : D} {h h' : DH} (q : Q d h) (s : Sub h h') : Out K Q d h' := ⟨h, .sub s, q⟩
theorem tn1 (i : Nat) : ((i : Int) + 1).toNat = i + 1 := by omega
theorem tn0 (i : Nat) : ((i : Int)).toNat = i := by omega
theorem getD_of {ms : List Int} {i : Nat} {a : Int} (h : ms[i]? = some a) : a = ms.getD i 0 := by simp [List.getD, h]
/-- over enumerate of a list of ints -/
theorem dfor_enumI {g : RG} {tb : RS} {grd : DH → Prop} {D : DEnds} {τ : DSt} {h : DH} {ms : List Int} (I : Nat → DSt → DH → Prop) (h0 : I 0 τ h) (hg : ∀ i τ h, I i τ h → grd h)
    (hs : ∀ (i : Nat) τ h (N : DSt → DH → Prop), i < ms.length → I i τ h → (∀ τ' h', I (i + 1) τ' h' → N τ' h') → g (.tup [.int (i : Int), .int (ms.getD i 0)]) τ h fun τ' h' => tb { nx := N, rt := D.rt, bk := D.nx, ct := N } τ' h')
    (hd : ∀ τ h, I ms.length τ h → D.nx τ h) : dfor g tb grd D (enumD 0 (ms.map DL.D.int)) τ h :=
  dfor_enum I h0 hg (fun i a τ h N ha hi hn => by
    have hl := (List.getElem?_eq_some_iff.mp ha).1
    rw [getD_of ha]; exact hs i τ h N hl hi hn) hd
theorem ixN_at {n : Nat} {k : Int} {i : Nat} (e : k = (i : Int)) (h : i < n) : ixN n k = some i := by rw [e]; exact ixN_lt h
theorem atI_getD {ms : List Int} {k : Int} (h0 : 0 ≤ k) (h1 : k < ms.length) : L2.atI ms k = some (ms.getD k.toNat 0) := by
  have hk : k.toNat < ms.length := by omega
  rw [atI_at (i := k.toNat) (by omega) (List.getElem?_eq_getElem hk)]
  simp [hk]

theorem BoxAt.up {h : DH} {b p : Addr} {o : DO} (B : BoxAt h b) (n : h p = none) : BoxAt (dupd h p o) b := by
  obtain ⟨dl, h1, h2⟩ := B
  exact ⟨dl, by rw [dupd_ne (ne_sn h1 n)]; exact h1, by rw [dupd_ne (ne_sn h2 n)]; exact h2⟩
theorem BoxAt.wr {h : DH} {b p : Addr} {o : DO} {ds : List D} (B : BoxAt h b) (n : h p = some (.lst ds)) : BoxAt (dupd h p o) b := by
  obtain ⟨dl, h1, h2⟩ := B
  exact ⟨dl, by rw [dupd_ne (ne_oo h1 n (by intro z; cases z))]; exact h1, by rw [dupd_ne (ne_oo h2 n (by intro z; cases z))]; exact h2⟩
theorem BoxAt.mk {h : DH} {p dl : Addr} (ne : dl ≠ p) : BoxAt (dupd (dupd h p (.box dl)) dl .hid) p := ⟨dl, by rw [dupd_ne (Ne.symm ne), dupd_same], dupd_same⟩
theorem dats_all {n : Nat} : ∀ {ds : List D}, (∀ d ∈ ds, dat n d = true) → dats n ds = true
  | [], _ => by simp [dats]
  | d :: ds, h => by simp only [dats, Bool.and_eq_true]; exact ⟨h d (by simp), dats_all fun e he => h e (by simp [he])⟩
theorem dats_ints (n : Nat) (ms : List Int) : dats n (ms.map D.int) = true := dats_all fun d hd => by
  obtain ⟨i, _, rfl⟩ := List.mem_map.mp hd; simp [dat]
theorem dat_tup {n : Nat} {ds : List D} (h : dats n ds = true) : dat (n + 1) (.tup ds) = true := by simpa [dat] using h

/-! ### the ends -/
theorem DDef.mono {G : Gc} {x : Str} {j k : Nat} {sp : DSp} (F : DDef G x j sp) (h : j ≤ k) : DDef G x k sp := by
  obtain ⟨f, fd, ps, F, a, b, c⟩ := F.ex
  exact ⟨f, fd, ps, F.mono h, a, b, c⟩
theorem DDef.imp {G : Gc} {x : Str} {k : Nat} {sp sp' : DSp} (F : DDef G x k sp) (h : ∀ ds h Q, sp' ds h Q → sp ds h Q) : DDef G x k sp' := by
  obtain ⟨f, fd, ps, F, a, b, c⟩ := F.ex
  exact ⟨f, fd, ps, F.imp fun vs H Q E ⟨ds, h', Qd, r, rh, q, k⟩ => ⟨ds, h', Qd, r, rh, h _ _ _ q, k⟩, a, b, c⟩
/-- a def that is never called -/
theorem ddef_never {G : Gc} {x qual : Str} {st : Stmt} {f : Addr} {fd : FuncData} {ps : List Str} (F : At G x qual st f fd) (hbn : Binds G.K fd ps []) : DDef G x 0 (fun _ _ _ => False) :=
  ⟨f, fd, ps, ⟨fun vs H Q E ⟨_, _, _, _, _, q, _⟩ => q.elim, fun A outer s H args us vs Q E hr e0 hb r ⟨_, _, _, _, _, q, _⟩ => q.elim⟩, F.mg, F.fn.kp, hbn⟩
def sp_law : DSp := fun ds h Q => ∃ ns : List Int, ds = [.scr ns] ∧ ns.length ≤ 63 ∧ Q (.bl true) h
theorem law_walk {l : PySem.W.OpenLaw} {k : Nat} {q : Program} {loose : List Str} {XP : (Str → Option Value) → Heap → Prop} {YP : World → Heap → Prop} {d : DefRec} {K : Params → PySem.W.Frag} (hn : l.most = some 63) (hdf : d.params.defaults = []) (hr : Room k callerA)
    (hY : ∀ (w : World) (h : Heap), YP w h → (K w.params).In h)
    (F : ∀ (w : World) (mg : Str → Option Value) (fa : Addr) (h : Heap), (K w.params).In h → h.Ns mainGlobals mg → mg d.name = some (.ref fa) →
      ∃ fd : FuncData, (∀ (s : Shared) (u : Value), BindsTo s fd ⟨[u], []⟩ [("script", u)]) ∧ ∀ base : Heap, (K w.params).In base → base.Ns mainGlobals mg → FnOk l.prog w (K w.params) mg base CX0 k fa fd ["script"] (toSp (K w.params) sp_law)) :
    PySem.W.WalkO q loose XP YP l.row.toRowW d [] (fun f vs => PySem.call f vs) :=
  L2.walk_of (n := 63) (k := k) (x := "script") (CX := fun _ => CX0) (sp := fun w => toSp (K w.params) sp_law) hn (by decide) hdf hr hY F (fun w H a ns hl ho hS => by
    have hf : FrzL (K w.params) H a (ns.map V.int) := by
      rcases hS with (h | h) | h
      · rcases ho a with z | ⟨o, xs, z⟩
        · rw [z] at h; cases h
        · rw [z] at h; cases h
      · exact .inl h
      · exact .inr h
    refine ⟨[.scr ns], fun _ => none, fun d _ => d = .bl true, .cons (.scr hf) .nil, fun a o e => (by cases e), ⟨ns, rfl, hl, rfl⟩, ?_⟩
    rintro d h' v H' _ _ r rfl
    cases r; rfl) fun _ _ _ _ _ z => z
end DL
/-! generator expressions: the frame that a generator expression runs in, its turns, and whoever draws from it. -/
namespace DL
open PySem PySem.Spec PyProof.Rows L2 GenW

/-- where a generator expression's code runs -/
abbrev genCx (X : Cx) (A' : Around) (s : Shared) (H : Hp) (cenv : Env) (fp : List Addr) (pn : List (Addr × Obj)) : Cx :=
  { X with A := A', s_0 := s, H_0 := H, env := cenv, outer := X.stack, stack := cenv :: X.stack, ex := fp, fn := fun _ => false, calm := true, pn := pn, xe := fun _ _ => False }
abbrev genE (X : Cx) (scope : Scope) (C : Addr) (code : Value) : Env := genEnv scope (cloFrom X.env.cells scope.names []) C code builtinsNs X.env

section
variable {X : Cx} {pins : List (Addr × Obj)} {σ : L2.St} {H : Hp} {s : Shared}
theorem gen_start {A' : Around} {scope : Scope} {own : List (Str × Nat)} {fp : List Addr} {code : Value} {pn : List (Addr × Obj)} {m : Str → Option Value} {h5 : Heap} {g5 : Array GenState} {tk : Nat}
    (I : Inv X pins σ H s) (ok : BlkOk X.N X.env.scope scope own) (hcell : ∀ y ∈ scope.names, y.2 ≠ .cell) (hN : X.N.Nodup) (hfp : ∀ b ∈ fp, FpOk X pins H b ∧ b < s.heap.objs.size)
    (hh : A'.handled = none) (hfr : A'.frames = some (genE X scope s.heap.objs.size code :: X.stack)) (kp : ∀ b o, s.heap.get? b = some o → h5.get? b = some o) (hn : h5.Ns s.heap.objs.size m) (hg : AllBare g5)
    (hpn : ∀ p ∈ pn, h5.get? p.1 = some p.2 ∧ s.heap.objs.size < p.1 ∧ ∀ v, p.2.data ≠ .cell v) :
    Inv (genCx X A' s H (genE X scope s.heap.objs.size code) fp pn) [] (wipe σ (own.map (·.2))) H { s with gens := g5, toks := tk, heap := h5 } := by
  have hfree : ∀ y ∈ scope.names, y.2 = .free → ∃ c, X.env.cells.lookup y.1 = some c := fun y hy e => by
    rcases ok.free y hy e with k | k
    · exact I.ok.has _ (.inl k)
    · exact I.ok.has _ (.inr k)
  have cm : ∀ {y c}, (cloFrom X.env.cells scope.names []).lookup y = some c → X.env.cells.lookup y = some c ∧ c < s.heap.objs.size := fun {y c} e => by
    rcases cloFrom_mem (PySem.mem_of_lookup e) with hm | ⟨h1, rfl⟩
    · cases hm
    · obtain ⟨c, hc⟩ := hfree _ h1 rfl
      rw [hc]
      obtain ⟨w, z⟩ := I.cell _ _ hc
      exact ⟨rfl, z.lt⟩
  have look : ∀ {y}, scope.names.lookup y = some .free → ∃ c, (cloFrom X.env.cells scope.names []).lookup y = some c ∧ X.env.cells.lookup y = some c := fun {y} hl => by
    obtain ⟨c', e'⟩ := mem_lookup (cloFrom_has (cells := X.env.cells) (acc := []) (PySem.mem_of_lookup hl))
    exact ⟨c', e', (cm e').1⟩
  have nst : ∀ b, s.heap.objs.size ≤ b → b ∉ frs X.stack := fun b hb hm => by
    obtain ⟨_, o, ho, _⟩ := I.stack.mem hm
    exact absurd (Nat.lt_of_lt_of_le (Heap.lt_size ho) hb) (Nat.lt_irrefl _)
  refine ⟨⟨I.ok.mod, ok.kind, I.ok.glob, rfl, Nat.le_refl _, fun y z c e1 e2 => I.ok.inj y z c (cm e1).1 (cm e2).1, fun y hy => ?_, fun y c z _ => (by cases z), fun _ => hh, hfr, .inr ⟨rfl, rfl⟩, fun b hb => ⟨?_, fun y c e z => ?_⟩, I.bs, Nat.le_trans I.ok.bsz I.sz, fun b o e hb => ?_, fun b hb z => ?_, I.stack, I.stkFree⟩,
    rfl, hg, Un.kept kp, ⟨m, hn, fun i y av e1 e2 e3 => ?_⟩, fun y c e => ?_, I.hok.fresh (Nat.le_refl _), fun y c e => I.freeC y c (cm e).1, fun p hp => ?_, I.hok.kept kp, by rw [wipe_length]; exact I.len⟩
  · have hy : scope.names.lookup y = some .cell ∨ scope.names.lookup y = some .free := hy
    rcases hy with hy | hy
    · exact absurd rfl (hcell _ (PySem.mem_of_lookup hy))
    · obtain ⟨c, h1, _⟩ := look hy
      exact ⟨c, h1⟩
  · exact Nat.ne_of_lt (hfp b hb).2
  · exact (hfp b hb).1.2.2.2.2.1 y c (cm e).1 z
  · rcases (hfp b hb).1.2.2.2.1 with z | z
    · exact I.ok.noex b o e z
    · exact absurd (Nat.lt_of_lt_of_le (Heap.lt_size e) (Nat.le_trans I.ok.bsz z)) (Nat.lt_irrefl _)
  · rcases List.mem_cons.mp (I.stkSub b z) with z | z
    · exact (hfp b hb).1.2.1 z
    · exact (hfp b hb).1.2.2.1 z
  · obtain ⟨e2, hne⟩ := wipe_some e2
    have e1 : X.N[i]? = some y := e1
    have e3 : Vis scope y := e3
    have no : ∀ k, scope.names.lookup y = some k → ¬ (k = .local ∨ k = .cell) := fun k e hh => by
      rcases ok.own _ (PySem.mem_of_lookup e) hh with e' | e'
      · obtain ⟨p, hp, hpy⟩ := List.mem_map.mp e'
        have e3 := ok.ix p hp
        have : p.1 = y := hpy
        rw [this] at e3
        exact hne (List.mem_map.mpr ⟨p, hp, nodup_ix hN e3 e1⟩)
      · exact e' (List.mem_of_getElem? e1)
    have hfr : scope.names.lookup y = some .free := by
      rcases e3 with e3 | e3 | e3
      · exact absurd (.inl rfl) (no _ e3)
      · exact absurd (.inr rfl) (no _ e3)
      · exact e3
    obtain ⟨m', _, hl⟩ := I.loc
    have hvis : Vis X.env.scope y := (ok.free _ (PySem.mem_of_lookup hfr) rfl).elim (fun k => .inr (.inl k)) (fun k => .inr (.inr k))
    obtain ⟨w, r, q⟩ := hl i y av e1 e2 hvis
    obtain ⟨c, h1, h2⟩ := look hfr
    refine ⟨w, r, .inr ⟨.inr hfr, c, h1, ?_⟩⟩
    rcases q with ⟨k, _⟩ | ⟨_, c', e', z⟩
    · have k : X.env.scope.names.lookup y = some .local := k
      rcases ok.free _ (PySem.mem_of_lookup hfr) rfl with k' | k' <;> rw [show X.env.scope.names.lookup y = _ from k'] at k <;> cases k
    · rw [h2] at e'; cases e'
      exact z.keeps kp
  · obtain ⟨w, z⟩ := I.cell y c (cm e).1
    exact ⟨w, z.keeps kp⟩
  · rcases List.mem_append.mp hp with hp | hp
    · obtain ⟨h1, h2, h3⟩ := hpn p hp
      exact ⟨h1, I.hok.fresh (Nat.le_of_lt h2), Nat.ne_of_gt h2, nst _ (Nat.le_of_lt h2), h3⟩
    · cases hp
end

/-! ### who draws -/
/-- Pn: the pins that stand for what is out so far; Sl: what the drawer does with an item while the generator sleeps; Cn, Ex: what is wanted of an item to go on, to stop there; Fn: what is wanted when all is out -/
structure Con where
  Pn : List V → List (Addr × Obj) → Prop
  Sl : List V → Value → Shared → Shared → Prop
  Cn : List V → V → Hp → Prop
  Ex : List V → V → Hp → Prop
  Fn : List V → Hp → Prop
def GIc (C : Con) (X : Cx) (ip : List (Addr × Obj)) (ys : List V) (σ : L2.St) (H : Hp) (s : Shared) : Prop := ∃ pn, C.Pn ys pn ∧ Inv X (pn ++ ip) σ H s
def GI0 (C : Con) (X : Cx) (ip : List (Addr × Obj)) (ys : List V) (σ : L2.St) (H : Hp) (s₀ s : Shared) : Prop := ∃ pn, C.Pn ys pn ∧ (∀ p ∈ pn, s₀.heap.get? p.1 = some p.2) ∧ Inv X (pn ++ ip) σ H s
/-- behind the drawer's doing the generator's state stands -/
def Con.Wakes (C : Con) (X : Cx) (fp : List Addr) : Prop :=
  ∀ ip ys x v σ H s s', (∀ p ∈ ip, p.1 ∈ fp) → GIc C X ip ys σ H s → RelV x v → C.Cn ys x H → C.Sl ys v s s' → GIc C X ip (ys ++ [x]) σ H s'
def GYc (C : Con) (X : Cx) (fp : List Addr) : Protocol := fun n s₀ v s kap =>
  ∃ ys x ip σ H, n + 1 + ys.length = sizeLine ∧ RelV x v ∧ (∀ p ∈ ip, p.1 ∈ fp) ∧ GI0 C X ip ys σ H s₀ s ∧ (C.Ex ys x H ∨ (C.Cn ys x H ∧ ∀ s', C.Sl ys v s s' → kap (.send .none) s'))
def GRc (C : Con) (X : Cx) : GenEnd := fun n s₀ r s => r = .ok .next ∧ ∃ ys σ H, n + ys.length = sizeLine ∧ GI0 C X [] ys σ H s₀ s ∧ C.Fn ys H

/-- the turns -/
def gTurns (J : It) (g : TG) (tt : TT) (te : TE) (σw : L2.St) (vs : List Nat) (Cn Ex : List V → V → Hp → Prop) (Fn : List V → Hp → Prop) (W : Nat → Nat → List V → Hp → Prop) : Prop := ∀ i m ys H, W i m ys H →
  (J.stop i H ∧ Fn ys H) ∨ (J.go i H ∧ ∀ x H', J.yld i H x H' → g x σw H' fun σ2 H2 => wipe σ2 vs = σw ∧ tt σ2 H2 fun b H3 =>
    if b = true then te σ2 H3 fun y H4 => ys.length < sizeLine ∧ (Ex ys y H4 ∨ (Cn ys y H4 ∧ ∃ m', m' < m ∧ W (i + 1) m' (ys ++ [y]) H4)) else ∃ m', m' < m ∧ W (i + 1) m' ys H3)
theorem seg_gen {X : Cx} {A : Around} {elt tg iter : Expr} {ifs : List Expr} {scope : Scope} {pos : Pos} {it : Addr} {fp : List Addr} {tn : Nat → Heap → Prop} {J : It} {C : Con} {g : TG} {tt : TT} {te : TE} {W : Nat → Nat → List V → Hp → Prop} {σw : L2.St} {vs : List Nat}
    (hA : A.over (.compLoop (.GeneratorExp elt [⟨tg, iter, ifs, 0⟩] scope pos) 0 (.ref it) .none X.env) [] = X.A) (hx : X.xe = fun _ _ => False) (hc : X.calm = true) (hex : X.ex = fp) (hco : X.env.scope.isCoroutine = false)
    (T : Turn X.prog X.w X.K tg J fp it tn) (hg : PG X tg g) (ht : PTs X ifs tt) (he : PE X elt te) (hw : gTurns J g tt te σw vs C.Cn C.Ex C.Fn W) (hwk : C.Wakes X fp) (hpf : ∀ p ∈ X.pn, p.1 ∉ fp) (hPn : ∀ ys pn, C.Pn ys pn → ∀ p ∈ pn, p.1 ∉ fp) (hlen : σw.length = X.N.length) :
    ∀ (m i n : Nat) (ys : List V) (s₀ s : Shared) (H : Hp), W i m ys H → n + ys.length = sizeLine → GI0 C X [] ys σw H s₀ s → tn i s.heap → (∀ b ∈ fp, H b = none) →
      Seg (model X.prog X.w) A (GRc C X) (GYc C X fp) n s₀ (.compLoop (.GeneratorExp elt [⟨tg, iter, ifs, 0⟩] scope pos) 0 (.ref it) .none X.env)
        ((model X.prog X.w).den (.compLoop (.GeneratorExp elt [⟨tg, iter, ifs, 0⟩] scope pos) 0 (.ref it) .none X.env)) [] s := by
  intro m
  induction m using Nat.strongRecOn with
  | ind m ih =>
    intro i n ys s₀ s H w hn hI st nf
    obtain ⟨pn, hP, h0, I⟩ := hI
    rw [List.append_nil] at I
    have fpo : ∀ {ip : List (Addr × Obj)} {σ' : L2.St} {H' : Hp} {s' : Shared}, Inv X (pn ++ []) σ' H' s' → (∀ b ∈ fp, H' b = none) → ∀ b ∈ fp, FpOk X pn H' b := fun {ip σ' H' s'} I' hn b hb =>
      ⟨hn b hb, (I'.ok.exf b (by rw [hex]; exact hb)).1, I'.ok.exfs b (by rw [hex]; exact hb), .inl (by rw [hex]; exact hb), fun x c e => (I'.ok.exf b (by rw [hex]; exact hb)).2 x c e, fun p hp z => by
        rcases List.mem_append.mp hp with hp | hp
        · exact hpf p hp (by rw [z]; exact hb)
        · exact hPn _ _ hP p hp (by rw [z]; exact hb)⟩
    show Seg _ A _ _ _ s₀ _ ((compTurn (.GeneratorExp elt [⟨tg, iter, ifs, 0⟩] scope pos) 0 (.ref it) .none X.env).onRaise (leaving X.env)) [] s
    rw [compTurn_gen, Sem.onRaise_eq_wrap]
    refine seg_bind_wrap (wpAny_standAt ?_)
    refine seg_bind_wrap ?_
    rw [hA]
    rcases hw i m ys H w with ⟨stop, qq⟩ | ⟨go, step⟩
    · refine thnF (T.done X rfl rfl rfl hc i pn s _ H (fun _ _ => False) I (fpo (ip := []) (by rw [List.append_nil]; exact I) nf) st stop) fun r s1 ⟨hr, I1⟩ => ?_
      subst hr
      exact seg_end (.ok .next) ⟨rfl, ys, σw, H, hn, ⟨pn, hP, h0, by rw [List.append_nil]; exact I1⟩, qq⟩
    · refine thnF (T.item X rfl rfl rfl hc i pn s _ H (fun _ _ => False) I (fpo (ip := []) (by rw [List.append_nil]; exact I) nf) st go) fun r s1 ⟨u, hr, h1⟩ => ?_
      subst hr
      refine seg_bind_wrap ?_
      rw [hA]
      refine thnF h1 fun _ s2 ⟨x, H2, I2, r2, y2, st2, n2⟩ => ?_
      have I2' := I2.pinned (fpo (ip := []) (by rw [List.append_nil]; exact I2) n2) (T.obj _ _ st2)
      refine seg_bind_wrap ?_
      rw [hA]
      have pg := hg.run _ s2 _ H2 x u _ I2' r2 (step x H2 y2)
      rw [hx] at pg
      refine thnF pg fun _ s3 ⟨σ3, H3, I3, hw3, q3⟩ => ?_
      refine seg_bind_wrap ?_
      rw [hA]
      have pt := ht.run _ s3 σ3 H3 _ I3 q3
      rw [hx] at pt
      refine thnF pt fun b s4 ⟨H4, I4, q4⟩ => ?_
      have hl : σw.length = σ3.length := by rw [← hw3, wipe_length]
      have nfp : ∀ {H' : Hp} {s' : Shared} {σ' : L2.St} {pn' : List (Addr × Obj)}, Inv X (pn' ++ pinsAt fp s2.heap) σ' H' s' → tn (i + 1) s'.heap ∧ ∀ b ∈ fp, H' b = none := fun {H' s' σ' pn'} I' => by
        have pin' : ∀ b ∈ fp, ∀ o, s2.heap.get? b = some o → s'.heap.get? b = some o ∧ H' b = none := fun b hb o e =>
          let z := I'.pin (b, o) (List.mem_append_right _ (List.mem_append_right _ (mem_pinsAt hb e)))
          ⟨z.1, z.2.1⟩
        refine ⟨T.keep _ _ _ st2 fun b hb o e => (pin' b hb o e).1, fun b hb => ?_⟩
        obtain ⟨o, e, _⟩ := T.obj _ _ st2 b hb
        exact (pin' b hb o e).2
      have wk : ∀ {H' : Hp} {s' : Shared} {pn' : List (Addr × Obj)}, Inv X (pn' ++ pinsAt fp s2.heap) σ3 H' s' → Inv X (pn' ++ []) σw H' s' := fun {H' s' pn'} I' => by
        rw [List.append_nil]
        exact I'.unpinned.weak hl fun j v e => by rw [← hw3] at e; exact (wipe_some e).1
      cases b with
      | false =>
        simp only [Bool.false_eq_true, if_false] at q4 ⊢
        obtain ⟨m', hm, w'⟩ := q4
        obtain ⟨t1, t2⟩ := nfp I4
        exact seg_again rfl (ih m' hm (i + 1) n ys s₀ s4 H4 w' hn ⟨pn, hP, h0, wk I4⟩ t1 t2)
      | true =>
        simp only [if_true] at q4 ⊢
        have hy : ∀ v, yieldOut X.env v = yieldValue v := fun v => by simp only [yieldOut, hco, Bool.false_eq_true, if_false]
        simp only [hy]
        rw [Sem.bind_eq_wrap', Sem.bind_eq_wrap', Sem.wrap_wrap, Sem.wrap_wrap]
        refine seg_wrap ?_
        rw [hA]
        have pe := he.run _ s4 σ3 H4 _ I4 q4
        rw [hx] at pe
        refine thnF pe fun v s5 ⟨y, H5, I5, r5, hlt, q5⟩ => ?_
        obtain ⟨n, rfl⟩ : ∃ k, n = k + 1 := ⟨n - 1, by omega⟩
        have hip : ∀ p ∈ pinsAt fp s2.heap, p.1 ∈ fp := fun p hp => (of_pinsAt hp).1
        refine seg_at (seg_yield rfl rfl rfl ⟨ys, y, pinsAt fp s2.heap, σ3, H5, hn, r5, hip, ⟨pn, hP, h0, I5⟩, ?_⟩)
        rcases q5 with q5 | ⟨c5, m', hm, w'⟩
        · exact .inl q5
        · refine .inr ⟨c5, fun s' sl => ?_⟩
          obtain ⟨pn', hP', I6⟩ := hwk _ ys y v σ3 H5 s5 s' hip ⟨pn, hP, I5⟩ r5 c5 sl
          obtain ⟨t1, t2⟩ := nfp I6
          exact seg_again rfl (ih m' hm (i + 1) n (ys ++ [y]) s' s' H5 w' (by rw [List.length_append, List.length_singleton]; omega) ⟨pn', hP', fun p hp => (I6.pin p (List.mem_append_right _ (List.mem_append_left _ hp))).1, wk I6⟩ t1 t2)
/-- a generator that is ready to be drawn from -/
def Rdy (C : Con) (X : Cx) (fp : List Addr) (A : Around) (a : Addr) (g n : Nat) (s : Shared) : Prop :=
  s.heap.IsGen a g ∧ s.heap.NoLimit ∧ ∃ gs, s.gens[g]? = some gs ∧ gs.Goes (model X.prog X.w) A.in1 (GRc C X) (GYc C X fp) n (.send .none) (s.setGen g .running)
def GenAtPin (X : Cx) (a : Addr) (g : Nat) : Prop := ∃ (go : Obj) (nm qn : Value), (a, go) ∈ X.pn ∧ go.cls = .type "generator" ∧ go.data = .fields #[.int g 0, nm, qn] ∧ go.slots = #[]
theorem GenAtPin.is {X : Cx} {a : Addr} {g : Nat} {pins : List (Addr × Obj)} {σ : L2.St} {H : Hp} {s : Shared} (z : GenAtPin X a g) (I : Inv X pins σ H s) : s.heap.IsGen a g := by
  obtain ⟨go, nm, qn, hp, h1, h2, h3⟩ := z
  exact ⟨go, nm, qn, (I.pin _ (List.mem_append_left _ hp)).1, h1, h2, h3⟩
theorem gen_next {C : Con} {X : Cx} {fp : List Addr} {A : Around} {a : Addr} {g n : Nat} {s : Shared} {Q : Option Value → Shared → Prop} {E : Value → Shared → Prop} (hh : A.handled = none) (hd : A.depth < recursionLimit) (R : Rdy C X fp A a g n s)
    (hY : ∀ ys x v ip σ H s₁ gs', ys.length < sizeLine → RelV x v → (∀ p ∈ ip, p.1 ∈ fp) → GI0 C X ip ys σ H s s₁ → gs'.bare = true → (s₁.setGen g gs').gens[g]? = some gs' →
      (C.Ex ys x H ∨ (C.Cn ys x H ∧ ∀ s'', s''.heap.IsGen a g → s''.heap.NoLimit → s''.gens[g]? = some gs' → C.Sl ys v s₁ (s''.setGen g .running) → ∃ m, n = m + 1 ∧ Rdy C X fp A a g m s'')) → Q (some v) (s₁.setGen g gs'))
    (hD : ∀ ys σ H s₁ h', ys.length ≤ sizeLine → C.Fn ys H → GI0 C X [] ys σ H s s₁ → (∀ b o, s₁.heap.get? b = some o → h'.get? b = some o) → Q none { s₁.setGen g .finished with heap := h' }) :
    wpAny (model X.prog X.w) A (pyNext (.ref a)) Q E s := by
  obtain ⟨hg, hl, gs, hgs, hgo⟩ := R
  have hgl : g < s.gens.size := (Array.getElem?_eq_some_iff.mp hgs).1
  refine wpAny_gsz (n := g + 1) hgl (wpAny_pyNext_genexpQ (P := fun n s₀ s => ∃ (ys : List V) (σ : L2.St) (H : Hp), n + ys.length = sizeLine ∧ GI0 C X [] ys σ H s₀ s ∧ C.Fn ys H) hh hl hd hg hgs hgo (fun v s₁ gs' hb hv => ?_) fun s₁ hp h' hk => ?_)
  · intro hsz
    obtain ⟨ys, x, ip, σ, H, hn, rv, hip, hI, hk⟩ := hv
    have hsz1 : g < s₁.gens.size := by
      have q : (s₁.setGen g gs').gens.size = s₁.gens.size := setGen_size _ _ _
      have hsz' : g + 1 ≤ (s₁.setGen g gs').gens.size := hsz
      omega
    refine hY ys x v ip σ H s₁ gs' (by omega) rv hip hI hb (setGen_at hsz1) (hk.imp id fun ⟨h1, h2⟩ => ⟨h1, fun s'' i1 i2 i3 i4 => ?_⟩)
    have z := h2 _ i4
    cases n with
    | zero => exact z.elim
    | succ m => exact ⟨m, rfl, i1, i2, gs', i3, z⟩
  · intro _
    obtain ⟨ys, σ, H, hn, hI, hF⟩ := hp
    exact hD ys σ H s₁ h' (by omega) hF hI hk
/-- the generator's state stands behind whatever keeps the objects -/
theorem inv_still {X : Cx} {pins : List (Addr × Obj)} {σ : L2.St} {H : Hp} {s s' : Shared} (I : Inv X pins σ H s) (ho : s'.os = s.os) (hg : AllBare s'.gens) (kp : ∀ b o, s.heap.get? b = some o → s'.heap.get? b = some o) : Inv X pins σ H s' :=
  I.call' (ch := []) ho (Un.kept kp) (I.hok.kept kp) hg fun b z => by simp at z

/-! ### any, all -/
def conB (stop : Bool) (Q : Bool → Hp → Prop) : Con where
  Pn := fun _ pn => pn = []
  Sl := fun _ _ s s' => s'.os = s.os ∧ AllBare s'.gens ∧ ∀ b o, s.heap.get? b = some o → s'.heap.get? b = some o
  Cn := fun _ x _ => x = .bl (!stop)
  Ex := fun _ x H => x = .bl stop ∧ Q stop H
  Fn := fun _ H => Q (!stop) H
theorem conB_wakes {stop : Bool} {Q : Bool → Hp → Prop} {X : Cx} {fp : List Addr} : (conB stop Q).Wakes X fp := by
  rintro ip ys x v σ H s s' _ ⟨pn, hp, I⟩ _ _ ⟨h1, h2, h3⟩
  exact ⟨pn, hp, inv_still I h1 h2 h3⟩
theorem bool_of {b : Bool} {v : Value} (r : RelV (.bl b) v) : v = .bool b := r
theorem all_loop {X : Cx} {fp : List Addr} {A : Around} {a : Addr} {g : Nat} {Q : Bool → Hp → Prop} {R : Result → Shared → Prop} (hh : A.handled = none) (hd : A.depth < recursionLimit) (hpin : GenAtPin X a g)
    (hR : ∀ b pn σ H s, Inv X pn σ H s → Q b H → R (.ok (.ret (.bool b))) s) : ∀ (n : Nat) (s : Shared), Rdy (conB false Q) X fp A.in1 a g n s → codeAny (model X.prog X.w) A (.builtin "all.loop" ⟨[.ref a], []⟩) R s := by
  intro n
  induction n using Nat.strongRecOn with
  | ind n ih =>
    intro s hr
    refine codeAny_builtin F.entry_all_loop ?_
    rw [Around.under_plainId F.plain_all_loop _]
    show wpAny _ A.in1 (pyNext (.ref a) >>= _) _ _ s
    refine wpAny_bind (gen_next (A := A.in1) hh hd hr (fun ys x v ip σ H s₁ gs' _ rv hip hI hb hgs hk => ?_) fun ys σ H s₁ h' _ hF hI hk => ?_)
    · obtain ⟨pn, hp, _, I⟩ := hI
      have I' := inv_still (s' := s₁.setGen g gs') I rfl (allBare_setGen I.bare hb) fun _ _ e => e
      rcases hk with ⟨rfl, q⟩ | ⟨rfl, h2⟩
      · obtain rfl := bool_of rv
        refine wpAny_bind (wpAny_holding (wpAny_truthy_bool ?_))
        refine wpAny_bind (wpAny_letGo ?_)
        simp only [Bool.false_eq_true, if_false]
        refine wpAny_bind (wpAny_rule (wpAny_pure ?_))
        exact hR false _ σ H _ I' q
      · obtain rfl := bool_of rv
        refine wpAny_bind (wpAny_holding (wpAny_truthy_bool ?_))
        refine wpAny_bind (wpAny_letGo ?_)
        simp only [Bool.not_false, if_true]
        obtain ⟨m, hm, hr'⟩ := h2 (s₁.setGen g gs') (hpin.is I') I'.nolimit hgs ⟨rfl, allBare_setGen (allBare_setGen I.bare hb) rfl, fun _ _ e => e⟩
        exact wpAny_pure ⟨plainId_quiet F.plain_all_loop _, ih m (by omega) _ hr'⟩
    · obtain ⟨pn, hp, _, I⟩ := hI
      refine wpAny_bind (wpAny_rule (wpAny_pure ?_))
      exact hR true _ σ H _ (inv_still (s' := { s₁.setGen g .finished with heap := h' }) I rfl (allBare_setGen I.bare rfl) hk) hF
theorem any_loop {X : Cx} {fp : List Addr} {A : Around} {a : Addr} {g : Nat} {Q : Bool → Hp → Prop} {R : Result → Shared → Prop} (hh : A.handled = none) (hd : A.depth < recursionLimit) (hpin : GenAtPin X a g)
    (hR : ∀ b pn σ H s, Inv X pn σ H s → Q b H → R (.ok (.ret (.bool b))) s) : ∀ (n : Nat) (s : Shared), Rdy (conB true Q) X fp A.in1 a g n s → codeAny (model X.prog X.w) A (.builtin "any.loop" ⟨[.ref a], []⟩) R s := by
  intro n
  induction n using Nat.strongRecOn with
  | ind n ih =>
    intro s hr
    refine codeAny_builtin F.entry_any_loop ?_
    rw [Around.under_plainId F.plain_any_loop _]
    show wpAny _ A.in1 (pyNext (.ref a) >>= _) _ _ s
    refine wpAny_bind (gen_next (A := A.in1) hh hd hr (fun ys x v ip σ H s₁ gs' _ rv hip hI hb hgs hk => ?_) fun ys σ H s₁ h' _ hF hI hk => ?_)
    · obtain ⟨pn, hp, _, I⟩ := hI
      have I' := inv_still (s' := s₁.setGen g gs') I rfl (allBare_setGen I.bare hb) fun _ _ e => e
      rcases hk with ⟨rfl, q⟩ | ⟨rfl, h2⟩
      · obtain rfl := bool_of rv
        refine wpAny_bind (wpAny_holding (wpAny_truthy_bool ?_))
        refine wpAny_bind (wpAny_letGo ?_)
        simp only [if_true]
        refine wpAny_bind (wpAny_rule (wpAny_pure ?_))
        exact hR true _ σ H _ I' q
      · obtain rfl := bool_of rv
        refine wpAny_bind (wpAny_holding (wpAny_truthy_bool ?_))
        refine wpAny_bind (wpAny_letGo ?_)
        simp only [Bool.not_true, Bool.false_eq_true, if_false]
        obtain ⟨m, hm, hr'⟩ := h2 (s₁.setGen g gs') (hpin.is I') I'.nolimit hgs ⟨rfl, allBare_setGen (allBare_setGen I.bare hb) rfl, fun _ _ e => e⟩
        exact wpAny_pure ⟨plainId_quiet F.plain_any_loop _, ih m (by omega) _ hr'⟩
    · obtain ⟨pn, hp, _, I⟩ := hI
      refine wpAny_bind (wpAny_rule (wpAny_pure ?_))
      exact hR false _ σ H _ (inv_still (s' := { s₁.setGen g .finished with heap := h' }) I rfl (allBare_setGen I.bare rfl) hk) hF
/-! ### a list that fills -/
def conL (S : Addr) (Fn : List V → Hp → Prop) : Con where
  Pn := fun ys pn => ∃ (acc : Array Value) (c : Nat), pn = [(S, lstObj acc c)] ∧ Vals ys acc.toList
  Sl := fun _ v s s' => Slept S v s s'
  Cn := fun _ _ _ => True
  Ex := fun _ _ _ => False
  Fn := Fn
/-- all that the generator has stands below L -/
structure Young (X : Cx) (fp : List Addr) (L : Addr) : Prop where
  s0 : X.s_0.heap.objs.size ≤ L
  loc : X.env.locals < L
  cell : ∀ x c, X.env.cells.lookup x = some c → c < L
  pn : ∀ p ∈ X.pn, p.1 < L
  fp : ∀ b ∈ fp, b < L
theorem conL_wakes {S : Addr} {Fn : List V → Hp → Prop} {X : Cx} {fp : List Addr} (y : Young X fp S) : (conL S Fn).Wakes X fp := by
  rintro ip ys x v σ H s s' hip ⟨pn, ⟨acc, c, rfl, r⟩, I⟩ rv _ sl
  have hA : Apart X S := ⟨y.s0, Nat.ne_of_gt y.loc, fun x c e => Nat.ne_of_lt (y.cell x c e)⟩
  obtain ⟨acc', c', r', I'⟩ := GI.woken (ip := ip) (fun p hp => Nat.ne_of_lt (y.pn p hp)) (fun p hp => Nat.ne_of_lt (y.fp _ (hip p hp))) hA ⟨acc, c, r, I⟩ rv sl
  exact ⟨_, ⟨acc', c', rfl, r'⟩, I'⟩
theorem ext_loop {X : Cx} {fp : List Addr} {A : Around} {S a : Addr} {g : Nat} {res : Value} {Fn : List V → Hp → Prop} {R : Result → Shared → Prop} (hh : A.handled = none) (hd : A.depth < recursionLimit) (hpin : GenAtPin X a g) (hSa : S ≠ a) (hSc : S ≠ cStatics)
    (hR : ∀ ys acc c σ H s, Fn ys H → Vals ys acc.toList → ys.length ≤ sizeLine → Inv X [(S, lstObj acc c)] σ H s → R (.ok (.ret res)) s) : ∀ (n : Nat) (s : Shared), Rdy (conL S Fn) X fp A.in1 a g n s → codeAny (model X.prog X.w) A (.builtin "list.extend.loop" ⟨[.ref S, .ref a, res], []⟩) R s := by
  intro n
  induction n using Nat.strongRecOn with
  | ind n ih =>
    intro s hr
    refine codeAny_builtin F.entry_extend_loop ?_
    rw [Around.under_plainId F.plain_extend_loop _]
    show wpAny _ A.in1 (pyNext (.ref a) >>= _) _ _ s
    refine wpAny_bind (gen_next (A := A.in1) hh hd hr (fun ys x v ip σ H s₁ gs' hlt rv hip hI hb hgs hk => ?_) fun ys σ H s₁ h' hle hF hI hk => ?_)
    · obtain ⟨pn, ⟨acc, c, rfl, r⟩, _, I⟩ := hI
      have hS1 : s₁.heap.get? S = some (lstObj acc c) := (I.pin (S, lstObj acc c) (List.mem_append_right _ List.mem_cons_self)).1
      have hasz : acc.size < sizeLine := by
        have e1 := r.length
        have e2 : acc.toList.length = acc.size := by simp
        omega
      show wpAny _ A.in1 (updateSeq S (·.push v) >>= _) _ _ _
      refine wpAny_bind ?_
      refine wpAny_updateSeq (s := s₁.setGen g gs') hS1 rfl (wpAny_pure ⟨plainId_quiet F.plain_extend_loop _, ?_⟩) (Nat.le_of_lt hasz) (by show (acc.push v).size ≤ sizeLine + 1; rw [Array.size_push]; omega)
      have keep3 : ∀ b o, b ≠ S → s₁.heap.get? b = some o → (s₁.heap.update S (Obj.mapSeq (·.push v))).get? b = some o := fun b o hbS e => (Heap.get?_update_other _ _ (Ne.symm hbS)).trans e
      rcases hk with h | ⟨_, h2⟩
      · exact h.elim
      · obtain ⟨m, hm, hr'⟩ := h2 { s₁.setGen g gs' with heap := s₁.heap.update S (Obj.mapSeq (·.push v)) } (by
          obtain ⟨o, nm, qn, ho, rr⟩ := hpin.is I
          exact ⟨o, nm, qn, keep3 a o (Ne.symm hSa) ho, rr⟩) (by
          obtain ⟨mc, hns, hnn⟩ := I.nolimit
          exact ⟨mc, hns.at' fun o e => keep3 _ o (Ne.symm hSc) e, hnn⟩) hgs (Slept.push hS1 (allBare_setGen (s := s₁.setGen g gs') (allBare_setGen I.bare hb) rfl))
        exact ih m (by omega) _ hr'
    · obtain ⟨pn, ⟨acc, c, rfl, r⟩, _, I⟩ := hI
      exact wpAny_pure (hR ys acc c σ H _ hF r hle (inv_still (s' := { s₁.setGen g .finished with heap := h' }) I rfl (allBare_setGen I.bare rfl) hk))
end DL
/-! a generator expression is made. -/
namespace DL
open PySem PySem.Spec PyProof.Rows L2 GenW

theorem over_gen {A : Around} {elt : Expr} {gs : List Comprehension} {scope : Scope} {pos : Pos} {it acc : Value} {env : Env} : A.over (.compLoop (.GeneratorExp elt gs scope pos) 0 it acc env) [] = A.deeper env := by
  first
    | rfl
    | (obtain ⟨hd, d, fr, g, u⟩ := A; simp [Around.over, Around.deeper, marksOver, frameCount, unitsOf, envsOf, guardsOf, pushEnvs, pushGuards, Code.envs, Code.env?, Code.isFrame, Code.guards, Code.isGuard, Code.weight, Code.frames, Code.isCreation, Code.isCaller, Code.cUnits])
theorem room_near {k : Nat} {A A' : Around} (r : Room (k + 1) A) (h : A'.handled = A.handled) (hd : A'.depth ≤ A.depth + 2) (hu : A'.units ≤ A.units + 10) (env : Env) : Room k (A'.deeper env) :=
  ⟨by show A'.handled = none; rw [h]; exact r.hd, by have := r.dp; show A'.depth + 1 + 3 * k + 5 < _; omega, by have := r.un; show A'.units + 3 + 16 * k + 200 < _; omega⟩

/-- what a generator expression is to hand out; P: the table of the def's code objects -/
def tGen (wi : TI) (g : TG) (tt : TT) (te : TE) (vs : List Nat) (P : Addr) (Cn Ex : List V → V → Hp → Prop) (Fn : List V → Hp → Prop) : L2.St → Hp → Prop := fun σ H => wi σ H fun J H1 => GxR.TabG H1 P ∧ ∀ H2, GxR.Tabbed P H1 H2 →
  ∃ W : Nat → Nat → List V → Hp → Prop, (∃ m, W 0 m [] H2) ∧ gTurns J g tt te (wipe σ vs) vs Cn Ex Fn W
/-- made, not begun -/
def GMadeX (X : Cx) (pins : List (Addr × Obj)) (σ : L2.St) (k : Nat) (Cn Ex : List V → V → Hp → Prop) (Fn : List V → Hp → Prop) (a : Addr) (s5 : Shared) : Prop :=
  ∃ (g : Nat) (H2 : Hp), s5.heap.IsGen a g ∧ a < s5.heap.objs.size ∧ Inv X pins σ H2 s5 ∧
    ∀ (A' : Around) (C : Con) (s6 : Shared), C.Cn = Cn → C.Ex = Ex → C.Fn = Fn → A'.handled = none → A'.frames = some X.stack → A'.depth ≤ X.A.depth + 2 → A'.units ≤ X.A.units + 8 → s6.os = s5.os → s6.gens = s5.gens → (∀ b o, s5.heap.get? b = some o → s6.heap.get? b = some o) →
      (∃ pn, C.Pn [] pn ∧ ∀ p ∈ pn, s6.heap.get? p.1 = some p.2 ∧ ∀ v, p.2.data ≠ .cell v) → (∀ ys pn, C.Pn ys pn → ∀ p ∈ pn, s5.heap.objs.size ≤ p.1) → (∀ Xg fp, Young Xg fp s5.heap.objs.size → C.Wakes Xg fp) →
      ∃ Xg fp, Xg.prog = X.prog ∧ Xg.w = X.w ∧ GenAtPin Xg a g ∧ Rdy C Xg fp A' a g sizeLine s6 ∧ ∀ pn σ' H' s', Inv Xg pn σ' H' s' → Inv X pins σ H' s'

section
variable {X : Cx} {pins : List (Addr × Obj)} {σ : L2.St} {H : Hp} {s : Shared}
theorem seg_start {A : Around} {R : GenEnd} {Y : Protocol} {n : Nat} {s₀ s : Shared} {P : Program} {w : World} {elt tg iter : Expr} {ifs : List Expr} {scope : Scope} {pos : Pos} {it : Addr} {cenv : Env}
    (hself : ∀ (A' : Around) (Q : Value → Shared → Prop) (E : Value → Shared → Prop), Q (.ref it) s → wpAny (model P w) A' (pyIter (.ref it)) Q E s)
    (loop : Seg (model P w) A R Y n s₀ (.compLoop (.GeneratorExp elt [⟨tg, iter, ifs, 0⟩] scope pos) 0 (.ref it) .none cenv) ((model P w).den (.compLoop (.GeneratorExp elt [⟨tg, iter, ifs, 0⟩] scope pos) 0 (.ref it) .none cenv)) [] s) :
    Seg (model P w) A R Y n s₀ (.compStart (.GeneratorExp elt [⟨tg, iter, ifs, 0⟩] scope pos) 0 (.ref it) .none cenv) ((model P w).den (.compStart (.GeneratorExp elt [⟨tg, iter, ifs, 0⟩] scope pos) 0 (.ref it) .none cenv)) [] s := by
  show Seg _ A _ _ _ s₀ _ ((compStart (.GeneratorExp elt [⟨tg, iter, ifs, 0⟩] scope pos) 0 (.ref it) .none cenv).onRaise (leaving cenv)) [] s
  unfold compStart
  rw [Sem.onRaise_eq_wrap]
  show Seg _ A _ _ _ s₀ _ ((ask >>= _).wrap _ _ _ _) [] s
  refine seg_bind_wrap (wpAny_askSetting ?_)
  split
  · exact seg_again rfl loop
  · first
      | exact seg_bind_wrap (wpAny_rule (seg_bind_wrap (wpAny_standAt (seg_bind_wrap (hself _ _ _ (seg_again rfl loop))))))
      | (refine seg_bind_wrap (wpAny_rule ?_); show Seg _ A _ _ _ s₀ _ ((standAt iter.pos >>= _).wrap _ _ _ _) [] s; exact seg_bind_wrap (wpAny_standAt (seg_bind_wrap (hself _ _ _ (seg_again rfl loop)))))

theorem gen_make {c P : Addr} {elt tg iter : Expr} {ifs : List Expr} {scope : Scope} {own : List (Str × Nat)} {gpos : Pos} {wi : TI} {g : TG} {tt : TT} {te : TE} {k : Nat} {Q' : Value → Shared → Prop} {Cn Ex : List V → V → Hp → Prop} {Fn : List V → Hp → Prop}
    (hr : Room (k + 1) X.A) (hc : X.calm = true) (hN : X.N.Nodup) (TB : GxR.TabB X.base X.mg c P) (hcode : X.env.code = .ref c) (hi : PI X tg iter wi) (ok : BlkOk X.N X.env.scope scope own) (hcell : ∀ y ∈ scope.names, y.2 ≠ .cell) (hco : scope.isCoroutine = false) (hdot : scope.names.lookup (".0" : Str) = some NameKind.local)
    (hg : ∀ A' s H C code fp pn, Room k A' → PG (genCx X A' s H (genE X scope C code) fp pn) tg g) (ht : ∀ A' s H C code fp pn, Room k A' → PTs (genCx X A' s H (genE X scope C code) fp pn) ifs tt)
    (he : ∀ A' s H C code fp pn, Room k A' → PE (genCx X A' s H (genE X scope C code) fp pn) elt te) (hs : ∀ v, genFold iter X.env v = pure v)
    (I : Inv X pins σ H s) (h : tGen wi g tt te (own.map (·.2)) P Cn Ex Fn σ H) (hQ : ∀ a s5, GMadeX X pins σ k Cn Ex Fn a s5 → Q' (.ref a) s5) :
    wpAny (model X.prog X.w) X.A (eval (.GeneratorExp elt [⟨tg, iter, ifs, 0⟩] scope gpos) X.env) Q' X.xe s := by
  have hfree : ∀ y ∈ scope.names, y.2 = .free → ∃ c, X.env.cells.lookup y.1 = some c := fun y hy e => by
    rcases ok.free y hy e with k | k
    · exact I.ok.has _ (.inl k)
    · exact I.ok.has _ (.inr k)
  refine wpAny_GeneratorExp_make hco (closure_ok hfree) hcell hdot ok.kind hr.depth ?_ hs
  refine thn (hi.run pins s σ H _ I h) fun xv s1 hx => thn (Q := PIE X pins σ tg _) hx fun itv s2 h2 => ?_
  obtain ⟨it, fp, tn, J, H1, rfl, I1, T, st1, f1, ⟨ps, hP, htr⟩, q⟩ := h2
  refine ⟨I1.nolimit, ?_⟩
  have hPs : s2.heap.get? P = some { cls := .none, data := .fields ps } := I1.hok P _ hP
  have cd : PySem.W.CodeHd s2.heap c P := TB.code.keeps fun b u e => I1.bk b u e
  have cont : ∀ (code : Value) (h3 : Heap) (tk : Nat) (ps' : Array Value), Heap.ExtBut P s2.heap h3 → s2.heap.objs.size ≤ h3.objs.size → h3.get? P = some { cls := .none, data := .fields ps' } → (∃ more, ps' = ps ++ more) → TriplesOk ps'.toList →
      wpAny (model X.prog X.w) X.A (builtinsFor X.env.globals X.env.builtins) (fun bi s₄ =>
        ∀ h', h'.Ns s₄.heap.objs.size (fun y => if y = ".0" then some (.ref it) else none) → Heap.SameBut s₄.heap.objs.size (s₄.heap.push { cls := .type "frame", data := .dict #[] }) h' →
          Q' (.ref h'.objs.size) { s₄ with
            gens := s₄.gens.push (.fresh (.compStart (.GeneratorExp elt [⟨tg, iter, ifs, 0⟩] scope gpos) 0 (.ref it) .none (genEnv scope (cloFrom X.env.cells scope.names []) s₄.heap.objs.size code bi X.env))),
            toks := s₄.toks + 1 + 1 + 1,
            heap := h'.push { cls := .type "generator", data := .fields #[.int s₄.gens.size 0, .str "<genexpr>" (s₄.toks + 1), .str (X.env.qual ++ "<genexpr>") (s₄.toks + 1 + 1)] } }) X.xe { s2 with heap := h3, toks := tk } := by
    intro code h3 tk ps' hx hsz hP3 hmore ht3
    obtain ⟨bm, ob, e1, e2, e3, e4, e5, e6, e7, e8⟩ := TB.bm
    have keep3 : ∀ b u, b ≠ P → s2.heap.get? b = some u → h3.get? b = some u := fun b u hb e => hx b u hb e
    refine wpAny_builtinsFor (m := X.mg) (by rw [I1.ok.glob]; exact ((I1.mod.glob.keeps I1.bk)).extBut hx TB.gP) e1 e2 (keep3 _ _ e4 (I1.bk _ _ e5)) e6 e7 e8 ?_
    obtain ⟨more, em⟩ := hmore
    intro h' hn' hs'
    have hn' : h'.Ns h3.objs.size _ := hn'
    have hs' : Heap.SameBut h3.objs.size (h3.push { cls := .type "frame", data := .dict #[] }) h' := hs'
    -- the def's state, with the table grown
    have I4 := GxR.inv_tab (more := more) (h' := h3) (g' := s2.gens) (d' := s2.drawn) (t' := tk) I1 hP keep3 (by rw [← em]; exact hP3) I1.bare
    have hT2 : GxR.Tabbed P H1 (upd H1 P (.tbl (ps ++ more))) := ⟨⟨ps ++ more, upd_same, by rw [← em]; exact ht3⟩, fun b hb => upd_ne hb⟩
    obtain ⟨W, ⟨m0, w0⟩, turns⟩ := q _ hT2
    generalize hH2 : upd H1 P (.tbl (ps ++ more)) = H2 at I4 hT2 w0
    have nP : ∀ b ∈ fp, b ≠ P := fun b hb z => by
      have q := (f1 b hb).1
      rw [z, hP] at q
      cases q
    have st4 : tn 0 h3 := T.keep _ _ _ st1 fun b hb o e => keep3 b o (nP b hb) e
    generalize hs4 : ({ s2 with heap := h3, gens := s2.gens, drawn := s2.drawn, toks := tk } : Shared) = s4 at I4
    have h4 : s4.heap = h3 := by rw [← hs4]
    have f4 : ∀ b ∈ fp, FpOk X pins H2 b ∧ b < s4.heap.objs.size := fun b hb => by
      obtain ⟨o, e, _⟩ := T.obj _ _ st4 b hb
      refine ⟨⟨?_, (f1 b hb).2⟩, by rw [h4]; exact Heap.lt_size e⟩
      rw [hT2.2 b (nP b hb)]
      exact (f1 b hb).1
    generalize hgo : ({ cls := .type "generator", data := .fields #[.int s4.gens.size 0, .str "<genexpr>" (s4.toks + 1), .str (X.env.qual ++ "<genexpr>") (s4.toks + 1 + 1)] } : Obj) = go
    have goc : go.cls = .type "generator" := by rw [← hgo]
    have god : go.data = .fields #[.int s4.gens.size 0, .str "<genexpr>" (s4.toks + 1), .str (X.env.qual ++ "<genexpr>") (s4.toks + 1 + 1)] := by rw [← hgo]
    have gos : go.slots = #[] := by rw [← hgo]
    have hsz' : h'.objs.size = h3.objs.size + 1 := by rw [hs'.1, Heap.size_push]
    have kp5 : ∀ b o, s4.heap.get? b = some o → (h'.push go).get? b = some o := fun b o e => by
      rw [h4] at e
      exact Heap.get?_push_of_some _ (hs'.extBut b o (Nat.ne_of_lt (Heap.lt_size e)) (Heap.get?_push_of_some _ e))
    have hga : (h'.push go).get? h'.objs.size = some go := by rw [← hgo]; exact Heap.get?_push_size _ rfl
    have bare5 : AllBare (s4.gens.push (.fresh (.compStart (.GeneratorExp elt [⟨tg, iter, ifs, 0⟩] scope gpos) 0 (.ref it) .none (genE X scope s4.heap.objs.size code)))) := AllBare.push I4.bare rfl
    refine hQ h'.objs.size _ ?_
    show GMadeX X pins σ k Cn Ex Fn h'.objs.size { s4 with gens := s4.gens.push (.fresh (.compStart (.GeneratorExp elt [⟨tg, iter, ifs, 0⟩] scope gpos) 0 (.ref it) .none (genE X scope s4.heap.objs.size code))), toks := s4.toks + 1 + 1 + 1, heap := h'.push go }
    have os4 : s4.os = s4.os := rfl
    have I5 : Inv X pins σ H2 { s4 with gens := s4.gens.push (.fresh (.compStart (.GeneratorExp elt [⟨tg, iter, ifs, 0⟩] scope gpos) 0 (.ref it) .none (genE X scope s4.heap.objs.size code))), toks := s4.toks + 1 + 1 + 1, heap := h'.push go } :=
      inv_still I4 os4.symm bare5 kp5
    refine ⟨s4.gens.size, H2, ⟨go, _, _, hga, goc, god, gos⟩, by show _ < (h'.push go).objs.size; rw [Heap.size_push]; exact Nat.lt_succ_self _, I5, ?_⟩
    intro A' C s6 eCn eEx eFn hh hfr hdp hun ho6 hg6 kp6 hpn hyng hwk
    have szg : (h'.push go).objs.size = h'.objs.size + 1 := Heap.size_push ..
    obtain ⟨pn, hPn, hpn⟩ := hpn
    have h3lt : h3.objs.size < h'.objs.size := by omega
    -- the generator's own state
    have Ig0 := gen_start (A' := A'.in1.deeper (genE X scope s4.heap.objs.size code)) (pn := [(h'.objs.size, go)]) (m := fun y => if y = ".0" then some (.ref it) else none) (h5 := h'.push go) (g5 := s4.gens.push (.fresh (.compStart (.GeneratorExp elt [⟨tg, iter, ifs, 0⟩] scope gpos) 0 (.ref it) .none (genE X scope s4.heap.objs.size code)))) (tk := s4.toks + 1 + 1 + 1) (code := code)
      I4 ok hcell hN f4 hh (Around.frames_deeper (by exact hfr)) kp5 (by rw [h4]; exact hn'.push _) bare5 (fun p hp => by
        rw [List.mem_singleton.mp hp]
        exact ⟨hga, by rw [h4]; exact h3lt, fun v q => by rw [god] at q; cases q⟩)
    have I6 := inv_still (s' := s6) Ig0 ho6 (by rw [hg6]; exact bare5) kp6
    have I6r := inv_still (s' := s6.setGen s4.gens.size .running) I6 rfl (allBare_setGen I6.bare rfl) fun _ _ e => e
    have hlt6 : ∀ b, b < s4.heap.objs.size → b < (h'.push go).objs.size := fun b hb => by
      rw [h4] at hb
      exact Nat.lt_of_lt_of_le (Nat.lt_trans hb h3lt) (by rw [szg]; exact Nat.le_succ _)
    have young : Young (genCx X (A'.in1.deeper (genE X scope s4.heap.objs.size code)) s4 H2 (genE X scope s4.heap.objs.size code) fp [(h'.objs.size, go)]) fp (h'.push go).objs.size := by
      refine ⟨?_, ?_, fun x c e => ?_, fun p hp => ?_, fun b hb => hlt6 b (f4 b hb).2⟩
      · show s4.heap.objs.size ≤ _
        rw [h4, szg]; omega
      · show s4.heap.objs.size < _
        rw [h4, szg]; omega
      · obtain ⟨v, z⟩ := Ig0.cell x c e
        exact z.lt
      · rw [List.mem_singleton.mp hp, szg]
        exact Nat.lt_succ_self _
    have wk := hwk _ fp young
    subst eCn; subst eEx; subst eFn
    have rm := room_near (A' := A'.in1) hr (hh.trans hr.hd.symm) hdp (by show A'.units + 1 ≤ _; omega) (genE X scope s4.heap.objs.size code)
    have nfp : ∀ b ∈ fp, H2 b = none := fun b hb => (f4 b hb).1.1
    have hl6 : ∀ p ∈ pn, (h'.push go).objs.size ≤ p.1 := hyng [] pn hPn
    refine ⟨genCx X (A'.in1.deeper (genE X scope s4.heap.objs.size code)) s4 H2 (genE X scope s4.heap.objs.size code) fp [(h'.objs.size, go)], fp, rfl, rfl, ⟨go, _, _, List.mem_singleton.mpr rfl, goc, god, gos⟩, ⟨?_, I6.nolimit, .fresh (.compStart (.GeneratorExp elt [⟨tg, iter, ifs, 0⟩] scope gpos) 0 (.ref it) .none (genE X scope s4.heap.objs.size code)), ?_, rfl, ?_⟩, fun pn σ' H' s' Ig => ?_⟩
    · exact ⟨go, _, _, kp6 _ _ hga, goc, god, gos⟩
    · rw [hg6]
      exact Array.getElem?_push_size ..
    · refine seg_start (fun A'' Q E hQ => T.self A'' 0 _ Q E (T.keep _ _ _ st4 fun b _ o e => kp6 _ _ (kp5 b o (by rw [h4]; exact e))) hQ) ?_
      refine seg_gen (X := genCx X (A'.in1.deeper (genE X scope s4.heap.objs.size code)) s4 H2 (genE X scope s4.heap.objs.size code) fp [(h'.objs.size, go)]) over_gen rfl rfl rfl hco T (hg _ _ _ _ _ _ _ rm) (ht _ _ _ _ _ _ _ rm) (he _ _ _ _ _ _ _ rm) turns wk ?_ ?_ ?_ m0 0 sizeLine [] _ _ H2 w0 rfl ⟨pn, hPn, fun p hp => (hpn p hp).1, ?_⟩ ?_ nfp
      · intro p hp z
        rw [List.mem_singleton.mp hp] at z
        have := (f4 _ z).2
        rw [h4] at this
        exact absurd (Nat.lt_trans this h3lt) (Nat.lt_irrefl _)
      · intro ys pn' hP' p hp z
        have h1 := hyng ys pn' hP' p hp
        exact absurd (Nat.lt_of_lt_of_le (hlt6 _ (f4 _ z).2) h1) (Nat.lt_irrefl _)
      · rw [wipe_length]; exact I.len
      · rw [List.append_nil]
        refine I6r.pins_of fun p hp => ?_
        obtain ⟨e1, e2⟩ := hpn p hp
        have h1 := hl6 p hp
        have h0 : H2 p.1 = none := I5.hok.fresh h1
        refine ⟨e1, h0, Nat.ne_of_gt (Nat.lt_of_lt_of_le young.loc h1), fun z => ?_, e2⟩
        have z : p.1 ∈ frs X.stack := z
        obtain ⟨_, o, ho, _⟩ := I5.stack.mem z
        exact absurd (Nat.lt_of_lt_of_le (Heap.lt_size ho) h1) (Nat.lt_irrefl _)
      · exact T.keep _ _ _ st4 fun b _ o e => kp6 _ _ (kp5 b o (by rw [h4]; exact e))
    · exact I4.call' (ch := fp) Ig.os Ig.base Ig.hok Ig.bare fun b hb => ⟨(f4 b hb).1.2.2.2.1, (f4 b hb).1.2.1, (f4 b hb).1.2.2.2.2.1, (f4 b hb).1.2.2.2.2.2⟩
  cases hf : codeAmong gpos ps.toList with
  | none =>
    refine wpAny_genexprCodeX hcode (cd.code hPs htr) (cd.tab hPs) hf fun c' h' tk hx hge hlt hco' _ htab' _ => ?_
    obtain ⟨o1, vs, f1, tf, fl, tg, inF, tx, tt, op, _, _, _, _, _, _, _, _, _, htr', _⟩ := hco'
    exact cont _ h' tk _ hx (Nat.le_trans hge (Nat.le_of_lt hlt)) htab'.2 ⟨_, rfl⟩ htr'
  | some cv =>
    refine wpAny_genexprCode_hit hcode (cd.code hPs htr) hf ?_
    exact cont cv s2.heap s2.toks ps (Heap.ExtBut.refl _ _) (Nat.le_refl _) hPs ⟨#[], by simp⟩ htr
end
end DL
set_option maxHeartbeats 1000000
/-! all, any, tuple, sum, join of a generator expression. -/
namespace DL
open PySem PySem.Spec PyProof.Rows L2 GenW
section
variable {X : Cx} {pins : List (Addr × Obj)} {σ : L2.St} {k : Nat} {a : Addr} {s : Shared} {E : Value → Shared → Prop} {A : Around}
/-- a call's around is near the def's -/
structure Near (X : Cx) (A : Around) : Prop where
  hd : A.handled = none
  fr : A.frames = some X.stack
  dp : A.depth ≤ X.A.depth + 2
  un : A.units ≤ X.A.units + 6
theorem Near.in1 (n : Near X A) (h : A.units ≤ X.A.units + 5) : Near X A.in1 := ⟨n.hd, n.fr, n.dp, by show A.units + 1 ≤ _; omega⟩
theorem near_of (r : Room k X.A) (hf : X.A.frames = some X.stack) : Near X X.A := ⟨r.hd, hf, by omega, by omega⟩
theorem collect_gen {Fn : List V → Hp → Prop} {Q : List Value → Shared → Prop} (M : GMadeX X pins σ k (fun _ _ _ => True) (fun _ _ _ => False) Fn a s) (n : Near X A) (hd : A.depth < recursionLimit)
    (hQ : ∀ (ys : List V) (acc : Array Value) H' s', Fn ys H' → Vals ys acc.toList → ys.length ≤ sizeLine → Inv X pins σ H' s' → Q acc.toList s') : wpAny (model X.prog X.w) A (collect (.ref a)) Q E s := by
  obtain ⟨g, H2, hg, hlt, I, go⟩ := M
  have hcl : cStatics < s.heap.objs.size := let ⟨_, hn, _⟩ := I.nolimit; hn.lt
  have hSa : s.heap.objs.size ≠ a := Nat.ne_of_gt hlt
  unfold collect
  refine wpAny_bind (wpAny_runValue (codeAny_builtin F.entry_proto_collect ?_))
  rw [Around.under_plainId F.plain_proto_collect _]
  show wpAny _ A.in1 (newList [] >>= fun l => again (.builtin "list.__iadd__" ⟨[l, .ref a], []⟩)) _ _ s
  refine wpAny_bind (wpAny_newObj_type ?_)
  refine wpAny_pure ⟨plainId_quiet F.plain_list_iadd _, codeAny_builtin F.entry_list_iadd ?_⟩
  rw [Around.under_plainId F.plain_list_iadd _]
  have k1 : ∀ b o, s.heap.get? b = some o → (s.heap.push { cls := .type "list", data := .seq ([] : List Value).toArray }).get? b = some o := fun b o e => Heap.get?_push_of_some _ e
  have g1 := hg.keeps k1
  show wpAny _ A.in1 (Builtin.List.listExtendWith (.ref s.heap.objs.size) (.ref a) (.ref s.heap.objs.size)) _ _ _
  unfold Builtin.List.listExtendWith
  refine wpAny_bind (wpAny_typeOf (Heap.IsGen.typeIs (s := { s with heap := _ }) g1) ?_)
  have h1 : Builtin.List.listSameRef (.ref s.heap.objs.size) (.ref a) = false := by simp [Builtin.List.listSameRef, hSa]
  have h2 : (Value.type "generator" == Value.type "list") = false := by decide
  have h3 : (Value.type "generator" == Value.type "tuple") = false := by decide
  simp only [h1, h2, h3, Bool.or_false, Bool.false_eq_true, if_false]
  refine wpAny_bind (wpAny_pyIter_gen (s := { s with heap := _ }) g1 ?_)
  refine wpAny_bind (wpAny_holding ?_)
  unfold Builtin.List.listLengthHint
  refine wpAny_bind (wpAny_specialOf (Heap.IsGen.typeIs (s := { s with heap := _ }) g1) F.gen_no_len ?_)
  show wpAny _ A.in1 (specialOf (Value.ref a) (Str.ofString "__length_hint__") >>= _) _ _ _
  refine wpAny_bind (wpAny_specialOf (Heap.IsGen.typeIs (s := { s with heap := _ }) g1) F.gen_no_hint ?_)
  refine wpAny_pure ?_
  show wpAny _ A.in1 (rule "list.extend.makes-room" >>= fun _ => Builtin.List.listTouch (.ref s.heap.objs.size) >>= fun _ =>
    again (.builtin "list.extend.loop" ⟨[.ref s.heap.objs.size, .ref a, .ref s.heap.objs.size], []⟩)) _ _ _
  refine wpAny_bind (wpAny_rule ?_)
  have hS₁ : (s.heap.push { cls := .type "list", data := .seq ([] : List Value).toArray }).get? s.heap.objs.size = some { cls := .type "list", data := .seq ([] : List Value).toArray } := Heap.get?_push_size _ rfl
  refine wpAny_bind ?_
  show wpAny _ A.in1 (updateSeq s.heap.objs.size (·.push .none) >>= fun _ => updateSeq s.heap.objs.size (·.pop)) _ _ _
  refine wpAny_bind (wpAny_updateSeq hS₁ rfl ?_)
  have hS₂ := Heap.get?_update_self (Obj.mapSeq (·.push Value.none)) hS₁ rfl
  refine wpAny_updateSeq hS₂ rfl ?_
  have hS₃ := Heap.get?_update_self (Obj.mapSeq (·.pop)) hS₂ rfl
  have up : ∀ (h : Heap) (f : Obj → Obj), (∀ b o, s.heap.get? b = some o → h.get? b = some o) → ∀ b o, s.heap.get? b = some o → (h.update s.heap.objs.size f).get? b = some o := fun h f q b o e =>
    (Heap.get?_update_other _ _ (Ne.symm (Nat.ne_of_lt (Heap.lt_size e)))).trans (q b o e)
  have k3 := up _ (Obj.mapSeq (·.pop)) (up _ (Obj.mapSeq (·.push Value.none)) k1)
  obtain ⟨Xg, fp, e1, e2, hp, rd, back⟩ := go A.in1 (conL s.heap.objs.size Fn) { s with heap := ((s.heap.push { cls := .type "list", data := .seq ([] : List Value).toArray }).update s.heap.objs.size (Obj.mapSeq (·.push Value.none))).update s.heap.objs.size (Obj.mapSeq (·.pop)) } rfl rfl rfl n.hd n.fr n.dp (by show A.units + 1 ≤ _; have := n.un; omega) rfl rfl k3 ⟨_, ⟨#[], _, rfl, .nil⟩, fun p hp => by
    rw [List.mem_singleton.mp hp]
    exact ⟨hS₃, fun v q => by cases q⟩⟩ (fun ys pn ⟨acc, c, e, _⟩ p hp => by rw [e] at hp; rw [List.mem_singleton.mp hp]; exact Nat.le_refl _) fun Xg fp y => conL_wakes y
  refine wpAny_pure ⟨plainId_quiet F.plain_extend_loop _, ?_⟩
  rw [← e1, ← e2]
  refine ext_loop n.hd hd hp hSa (Nat.ne_of_gt hcl) (fun ys acc c σ' H' s' hF r hl Ig => ?_) sizeLine _ rd
  have hS' : s'.heap.get? s.heap.objs.size = some (lstObj acc c) := (Ig.pin (s.heap.objs.size, lstObj acc c) (List.mem_append_right _ List.mem_cons_self)).1
  show wpAny _ A (load s.heap.objs.size >>= _) _ _ s'
  refine wpAny_bind (wpAny_load hS' ?_)
  exact wpAny_pure (hQ ys acc H' s' hF r hl (back _ _ _ _ Ig))
/-! ### tuple -/
theorem code_tuple_gen {Fn : List V → Hp → Prop} {Q₁ : Value → Shared → Prop} (M : GMadeX X pins σ k (fun _ _ _ => True) (fun _ _ _ => False) Fn a s) (n : Near X A.in1) (hd : A.depth < recursionLimit)
    (h : ∀ (ys : List V) (acc : Array Value) H' s', Fn ys H' → Vals ys acc.toList → ys.length ≤ sizeLine → Inv X pins σ H' s' → Q₁ (.ref s'.heap.objs.size) { s' with heap := s'.heap.push { cls := .type "tuple", data := .seq acc } }) :
    codeAny (model X.prog X.w) A (.call (.builtin "tuple.__new__") ⟨[.type "tuple", .ref a], []⟩) (wants Q₁ E) s := by
  obtain ⟨g, hgen⟩ : ∃ g, s.heap.IsGen a g := let ⟨g, H2, hg, _⟩ := M; ⟨g, hg⟩
  have hTI := Heap.IsGen.typeIs (s := s) hgen
  refine codeAny_of_tree ?_
  show wpAny _ A.in1 (do checkBuiltinCall "tuple.__new__" ⟨[.type "tuple", .ref a], []⟩; again (.builtin "tuple.__new__" ⟨[.type "tuple", .ref a], []⟩)) _ _ s
  refine wpAny_bind (wpAny_of_eq (F.newCall_tuple_1 _) (wpAny_pure ⟨plainId_quiet F.plain_tuple_new _, codeAny_builtin F.entry_tuple_new ?_⟩))
  rw [Around.under_plainId F.plain_tuple_new _]
  have hsub := sub_tuple_self
  have hinit := init_tuple_lookup
  have hmh := madeHere_tuple
  wp_walk using wpAny_typeOf hTI, collect_gen M n hd
  intro ys acc H' s' hF hv hl I
  show wpAny _ _ (Builtin.Tuple.tupleExact acc.toList.toArray >>= fun v => ret v) _ _ _
  unfold Builtin.Tuple.tupleExact
  have hsz : acc.toList.toArray.size ≤ sizeLine := by
    have e1 := hv.length
    rw [List.size_toArray]; omega
  refine wpAny_bind (wpAny_newObj_type ?_ hsz)
  refine wpAny_pure ?_
  have e : acc.toList.toArray = acc := by simp
  rw [e]
  exact h ys acc H' s' hF hv hl I
theorem call_tuple_genX {Fn : List V → Hp → Prop} {Q : VK} (M : GMadeX X pins σ k (fun _ _ _ => True) (fun _ _ _ => False) Fn a s) (n : Near X A.in1.in1) (hd : A.depth < recursionLimit)
    (h : ∀ ys H', Fn ys H' → ∀ l, H' l = none → Q (.ref l) (upd H' l (.tup ys))) : wpAny (model X.prog X.w) A (call (.type "tuple") [.ref a]) (EP X pins σ Q) E s := by
  refine callType_codes (Q₁ := fun obj s₁ => s₁.TypeIs obj "tuple" ∧ EP X pins σ Q obj s₁) F.called_tuple (F.typeCall_tuple_1 _) F.entry_object_init
    (code_tuple_gen (A := A.in1) M n hd fun ys acc H' s' hF hv hl I => ⟨⟨_, Heap.get?_push_size _ rfl, rfl⟩, ?_⟩) fun obj s₁ h₁ => ?_
  · have e : ({ cls := .type "tuple", data := .seq acc } : Obj) = { cls := .type "tuple", data := .seq acc.toList.toArray } := by simp
    rw [e]
    refine ⟨.ref s'.heap.objs.size, _, I.laid (t' := s'.toks) (fun b o e => Heap.get?_push_of_some _ e) (Nat.le_refl _) (show ObjOk X.prog X.w _ _ _ (.tup ys) from ⟨hl, acc.toList, hv, IsTup.new _ _⟩), rfl, h ys H' hF _ (I.hok.fresh (Nat.le_refl _))⟩
  · exact ⟨h₁.1, F.args_object_init_2 obj _, object_init_meets F.called_tuple.init.lookup F.called_tuple.made (by decide) X.prog X.w A.in1 _ s₁ ⟨h₁.1, rfl, h₁.2⟩⟩
/-- all that a generator expression wants of its def -/
structure GenOk (X : Cx) (k : Nat) (P : Addr) (elt tg iter : Expr) (ifs : List Expr) (scope : Scope) (own : List (Str × Nat)) (wi : TI) (g : TG) (tt : TT) (te : TE) : Prop where
  hr : Room (k + 1) X.A
  hc : X.calm = true
  hN : X.N.Nodup
  TB : ∃ c, GxR.TabB X.base X.mg c P ∧ X.env.code = .ref c
  hi : PI X tg iter wi
  ok : BlkOk X.N X.env.scope scope own
  hcell : ∀ y ∈ scope.names, y.2 ≠ .cell
  hco : scope.isCoroutine = false
  hdot : scope.names.lookup (".0" : Str) = some NameKind.local
  hg : ∀ A' s H C code fp pn, Room k A' → PG (genCx X A' s H (genE X scope C code) fp pn) tg g
  ht : ∀ A' s H C code fp pn, Room k A' → PTs (genCx X A' s H (genE X scope C code) fp pn) ifs tt
  he : ∀ A' s H C code fp pn, Room k A' → PE (genCx X A' s H (genE X scope C code) fp pn) elt te
  hs : ∀ v, genFold iter X.env v = pure v
variable {P : Addr} {elt tg iter : Expr} {ifs : List Expr} {scope : Scope} {own : List (Str × Nat)} {wi : TI} {g : TG} {tt : TT} {te : TE} {H : Hp} {nm : Str} {p pos gpos : Pos}
theorem GenOk.make {Cn Ex : List V → V → Hp → Prop} {Fn : List V → Hp → Prop} {Q' : Value → Shared → Prop} (G : GenOk X k P elt tg iter ifs scope own wi g tt te) (I : Inv X pins σ H s) (h : tGen wi g tt te (own.map (·.2)) P Cn Ex Fn σ H) (hQ : ∀ a s5, GMadeX X pins σ k Cn Ex Fn a s5 → Q' (.ref a) s5) :
    wpAny (model X.prog X.w) X.A (eval (.GeneratorExp elt [⟨tg, iter, ifs, 0⟩] scope gpos) X.env) Q' X.xe s := by
  obtain ⟨c, TB, hcode⟩ := G.TB
  exact gen_make G.hr G.hc G.hN TB hcode G.hi G.ok G.hcell G.hco G.hdot G.hg G.ht G.he G.hs I h hQ
/-- all, any -/
def tBoolG (stop : Bool) (wi : TI) (g : TG) (tt : TT) (te : TE) (vs : List Nat) (P : Addr) : TE := fun σ H Q => tGen wi g tt te vs P (fun _ x _ => x = .bl (!stop)) (fun _ x H => x = .bl stop ∧ Q (.bl stop) H) (fun _ H => Q (.bl (!stop)) H) σ H
theorem pe_allG (G : GenOk X k P elt tg iter ifs scope own wi g tt te) (hg : Gl X "all") (hm : X.mg "all" = none) (hv : bootBuiltins "all" = some (.builtin "all"))
    (he : starEach [.GeneratorExp elt [⟨tg, iter, ifs, 0⟩] scope gpos] X.env = (false, eval (.GeneratorExp elt [⟨tg, iter, ifs, 0⟩] scope gpos) X.env) :: starEach [] X.env := by rfl) :
    PE X (.Call (.Name "all" p) [.GeneratorExp elt [⟨tg, iter, ifs, 0⟩] scope gpos] [] pos) (tBoolG false wi g tt te (own.map (·.2)) P) := by
  refine ⟨fun pins s σ H Q I h => ?_⟩
  refine wpAny_Call_Name_kw (ld_blt I hg hm hv ?_)
  refine PyProof.Rows.callWith_builtin1 ?_ he (by rfl)
  rw [he]
  show wpAny _ _ (spliced ((false, eval (.GeneratorExp elt [⟨tg, iter, ifs, 0⟩] scope gpos) X.env) :: backTo pos (starEach [] X.env))) _ _ s
  refine Calls.spliced_cons (G.make I h fun a s5 M => ?_)
  refine Calls.spliced_nil ?_
  obtain ⟨g, H2, hgen, hlt, I5, go⟩ := M
  refine call_function_tree F.kind_all F.plain_all F.entry_all (F.args_all1 _) ?_
  unfold Builtin.«all»
  refine wpAny_bind (m := oneArg "all" _) (wpAny_pure ?_)
  refine wpAny_bind (wpAny_pyIter_gen hgen ?_)
  obtain ⟨Xg, fp, e1, e2, hp, rd, back⟩ := go X.A.in1 (conB false fun b H => Q (.bl b) H) s5 rfl rfl rfl G.hr.hd I.ok.frames (by show X.A.depth ≤ _; omega) (by show X.A.units + 1 ≤ _; omega) rfl rfl (fun _ _ e => e) ⟨[], rfl, fun p hp => by cases hp⟩ (fun ys pn e p hp => by
    have e : pn = [] := e
    rw [e] at hp; cases hp) fun Xg fp y => conB_wakes
  refine wpAny_pure ⟨plainId_quiet F.plain_all_loop _, ?_⟩
  rw [← e1, ← e2]
  exact all_loop G.hr.hd G.hr.depth hp (fun b pn σ' H' s' Ig q => ⟨.bl b, H', back _ _ _ _ Ig, rfl, q⟩) sizeLine _ rd
theorem pe_anyG (G : GenOk X k P elt tg iter ifs scope own wi g tt te) (hg : Gl X "any") (hm : X.mg "any" = none) (hv : bootBuiltins "any" = some (.builtin "any"))
    (he : starEach [.GeneratorExp elt [⟨tg, iter, ifs, 0⟩] scope gpos] X.env = (false, eval (.GeneratorExp elt [⟨tg, iter, ifs, 0⟩] scope gpos) X.env) :: starEach [] X.env := by rfl) :
    PE X (.Call (.Name "any" p) [.GeneratorExp elt [⟨tg, iter, ifs, 0⟩] scope gpos] [] pos) (tBoolG true wi g tt te (own.map (·.2)) P) := by
  refine ⟨fun pins s σ H Q I h => ?_⟩
  refine wpAny_Call_Name_kw (ld_blt I hg hm hv ?_)
  refine PyProof.Rows.callWith_builtin1 ?_ he (by rfl)
  rw [he]
  show wpAny _ _ (spliced ((false, eval (.GeneratorExp elt [⟨tg, iter, ifs, 0⟩] scope gpos) X.env) :: backTo pos (starEach [] X.env))) _ _ s
  refine Calls.spliced_cons (G.make I h fun a s5 M => ?_)
  refine Calls.spliced_nil ?_
  obtain ⟨g, H2, hgen, hlt, I5, go⟩ := M
  refine call_function_tree F.kind_any F.plain_any F.entry_any (F.args_any1 _) ?_
  unfold Builtin.«any»
  refine wpAny_bind (m := oneArg "any" _) (wpAny_pure ?_)
  refine wpAny_bind (wpAny_pyIter_gen hgen ?_)
  obtain ⟨Xg, fp, e1, e2, hp, rd, back⟩ := go X.A.in1 (conB true fun b H => Q (.bl b) H) s5 rfl rfl rfl G.hr.hd I.ok.frames (by show X.A.depth ≤ _; omega) (by show X.A.units + 1 ≤ _; omega) rfl rfl (fun _ _ e => e) ⟨[], rfl, fun p hp => by cases hp⟩ (fun ys pn e p hp => by
    have e : pn = [] := e
    rw [e] at hp; cases hp) fun Xg fp y => conB_wakes
  refine wpAny_pure ⟨plainId_quiet F.plain_any_loop _, ?_⟩
  rw [← e1, ← e2]
  exact any_loop G.hr.hd G.hr.depth hp (fun b pn σ' H' s' Ig q => ⟨.bl b, H', back _ _ _ _ Ig, rfl, q⟩) sizeLine _ rd
/-- tuple -/
def tTupG (wi : TI) (g : TG) (tt : TT) (te : TE) (vs : List Nat) (P : Addr) : TE := fun σ H Q => tGen wi g tt te vs P (fun _ _ _ => True) (fun _ _ _ => False) (fun ys H => ∀ l, H l = none → Q (.ref l) (upd H l (.tup ys))) σ H
theorem pe_tupG (G : GenOk X k P elt tg iter ifs scope own wi g tt te) (hg : Gl X "tuple") (hm : X.mg "tuple" = none) (hv : bootBuiltins "tuple" = some (.type "tuple"))
    (he : starEach [.GeneratorExp elt [⟨tg, iter, ifs, 0⟩] scope gpos] X.env = (false, eval (.GeneratorExp elt [⟨tg, iter, ifs, 0⟩] scope gpos) X.env) :: starEach [] X.env := by rfl) :
    PE X (.Call (.Name "tuple" p) [.GeneratorExp elt [⟨tg, iter, ifs, 0⟩] scope gpos] [] pos) (tTupG wi g tt te (own.map (·.2)) P) := by
  refine ⟨fun pins s σ H Q I h => ?_⟩
  refine wpAny_Call_Name_kw (ld_blt I hg hm hv ?_)
  refine PyProof.Rows.callWith_type1 ?_ he rfl
  rw [he]
  show wpAny _ _ (spliced ((false, eval (.GeneratorExp elt [⟨tg, iter, ifs, 0⟩] scope gpos) X.env) :: backTo pos (starEach [] X.env))) _ _ s
  refine Calls.spliced_cons (G.make I h fun a s5 M => ?_)
  refine Calls.spliced_nil ?_
  exact call_tuple_genX M ⟨G.hr.hd, I.ok.frames, by show X.A.depth ≤ _; omega, by show X.A.units + 1 + 1 ≤ _; omega⟩ G.hr.depth fun ys H' q => q
/-! ### sum -/
abbrev sumObj (T : Int) (t : Tok) (c : Nat) : Obj := { cls := .type "list", dict := none, data := .seq #[.int T t] c, slots := #[] }
def conS (S : Addr) (Fn : List V → Hp → Prop) : Con where
  Pn := fun ys pn => ∃ (ns : List Int) (t : Tok) (c : Nat), ys = ns.map V.int ∧ pn = [(S, sumObj ns.sum t c)]
  Sl := fun _ v s s' => s'.os = s.os ∧ AllBare s'.gens ∧ (∀ b o, b ≠ S → s.heap.get? b = some o → s'.heap.get? b = some o) ∧ ∀ T t c i u, s.heap.get? S = some (sumObj T t c) → v = .int i u → ∃ t' c', s'.heap.get? S = some (sumObj (T + i) t' c')
  Cn := fun ys x _ => ∃ (ns : List Int) (i : Int), ys = ns.map V.int ∧ x = .int i ∧ InLong i ∧ InLong (ns.sum + i)
  Ex := fun _ _ _ => False
  Fn := Fn
theorem ints_inj : ∀ {a b : List Int}, a.map V.int = b.map V.int → a = b
  | [], [], _ => rfl
  | [], _ :: _, h => by simp at h
  | _ :: _, [], h => by simp at h
  | x :: a, y :: b, h => by
    simp only [List.map_cons, List.cons.injEq, V.int.injEq] at h
    rw [h.1, ints_inj h.2]
theorem conS_wakes {S : Addr} {Fn : List V → Hp → Prop} {X : Cx} {fp : List Addr} (y : Young X fp S) : (conS S Fn).Wakes X fp := by
  rintro ip ys x v σ H s s' hip ⟨pn, ⟨ns, t, c, rfl, rfl⟩, I⟩ rv ⟨ns', i, e1, rfl, _, _⟩ ⟨h1, h2, h3, h4⟩
  cases ints_inj e1
  obtain ⟨u, rfl⟩ := (show ∃ t, v = Value.int i t from rv)
  obtain ⟨p1, p2, p3, p4, p5⟩ := I.pin (S, sumObj ns.sum t c) (List.mem_append_right _ List.mem_cons_self)
  obtain ⟨t', c', e'⟩ := h4 _ _ _ _ _ p1 rfl
  have I0 : Inv X ip σ H s := I.pins_of fun p hp => I.pin p (List.mem_append_right _ (List.mem_cons_of_mem _ hp))
  have I1 := I0.turned (it := S) (h' := s'.heap) (t' := s'.toks) h3 p2 p3 (.inr y.s0) (fun x c e => Nat.ne_of_lt (y.cell x c e)) fun p hp => by
    rcases List.mem_append.mp hp with hp | hp
    · exact Nat.ne_of_lt (y.pn p hp)
    · exact Nat.ne_of_lt (y.fp _ (hip p hp))
  have I2 := inv_still (s' := s') I1 h1 h2 fun _ _ e => e
  refine ⟨[(S, sumObj (ns ++ [i]).sum t' c')], ⟨ns ++ [i], t', c', by simp, rfl⟩, I2.pins_of fun p hp => ?_⟩
  rcases List.mem_cons.mp hp with hp | hp
  · rw [hp]
    refine ⟨?_, p2, p3, p4, fun v q => by cases q⟩
    rw [List.sum_append, List.sum_cons, List.sum_nil, Int.add_zero]
    exact e'
  · exact I2.pin p (List.mem_append_right _ hp)
theorem sum_loop {X : Cx} {fp : List Addr} {A : Around} {S a : Addr} {g : Nat} {Fn : List V → Hp → Prop} {R : Result → Shared → Prop} (hh : A.handled = none) (hd : A.depth < recursionLimit) (hpin : GenAtPin X a g) (hSa : S ≠ a) (hSc : S ≠ cStatics)
    (hR : ∀ (ns : List Int) t pn σ H s, Fn (ns.map V.int) H → Inv X pn σ H s → R (.ok (.ret (.int ns.sum t))) s) : ∀ (n : Nat) (s : Shared) (T : Int) (t : Tok) (c : Nat), s.heap.get? S = some (sumObj T t c) →
    Rdy (conS S Fn) X fp A.in1 a g n s → codeAny (model X.prog X.w) A (.builtin "sum.loop" ⟨[.ref a, .ref S, rawInt 0, rawInt 0], []⟩) R s := by
  intro n
  induction n using Nat.strongRecOn with
  | ind n ih =>
    intro s T t c hS hr
    refine codeAny_builtin F.entry_sum_loop ?_
    rw [Around.under_plainId F.plain_sum_loop _]
    show wpAny _ A.in1 (seqItems? (.ref S) >>= _) _ _ s
    refine wpAny_bind (wpAny_seqItems hS rfl ?_)
    show wpAny _ A.in1 (tryCatch (pyNext (.ref a)) _ >>= _) _ _ s
    refine wpAny_bind (wpAny_tryCatch (gen_next (A := A.in1) hh hd hr (fun ys x v ip σ H s₁ gs' hlt rv hip hI hb hgs hk => ?_) fun ys σ H s₁ h' hle hF hI hk => ?_))
    · obtain ⟨pn, ⟨ns, t1, c1, rfl, rfl⟩, h0, I⟩ := hI
      have e0 := h0 _ List.mem_cons_self
      rw [hS] at e0
      obtain ⟨rfl, rfl, rfl⟩ : T = ns.sum ∧ t = t1 ∧ c = c1 := by
        simp only [Option.some.injEq, Obj.mk.injEq, Data.seq.injEq, Value.int.injEq, true_and, and_true, List.cons.injEq, Array.mk.injEq] at e0
        obtain ⟨⟨h1, h2⟩, h3⟩ := e0
        exact ⟨h1, h2, h3⟩
      have hS' : (s₁.setGen g gs').heap.get? S = some (sumObj ns.sum t c) := (I.pin (S, sumObj ns.sum t c) (List.mem_append_right _ List.mem_cons_self)).1
      rcases hk with z | ⟨⟨ns', i, e1, rfl, f1, f2⟩, h2⟩
      · exact z.elim
      cases ints_inj e1
      obtain ⟨u, rfl⟩ := (show ∃ t, v = Value.int i t from rv)
      have hc : ((decide (-(2 ^ 63) ≤ i) && decide (i < 2 ^ 63)) && (decide (-(2 ^ 63) ≤ ns.sum + i) && decide (ns.sum + i < 2 ^ 63))) = true := by
        simp only [Bool.and_eq_true, decide_eq_true_eq]
        exact ⟨⟨f1.1, f1.2⟩, f2.1, f2.2⟩
      show wpAny _ A.in1 (if (_ : Bool) = true then (mkInt (ns.sum + i) >>= _) else _) _ _ _
      split
      · refine wpAny_bind (wpAny_mkInt ?_)
        show wpAny _ A.in1 (updateSeq S (fun _ => #[.int (ns.sum + i) (s₁.setGen g gs').toks]) >>= _) _ _ _
        refine wpAny_bind ?_
        refine wpAny_updateSeq hS' rfl (wpAny_pure ⟨plainId_quiet F.plain_sum_loop _, ?_⟩)
        have eS := Heap.get?_update_self (Obj.mapSeq (fun _ => #[Value.int (ns.sum + i) (s₁.setGen g gs').toks])) hS' rfl
        have kS : ∀ b o, b ≠ S → s₁.heap.get? b = some o → (s₁.heap.update S (Obj.mapSeq (fun _ => #[Value.int (ns.sum + i) (s₁.setGen g gs').toks]))).get? b = some o := fun b o hb e => (Heap.get?_update_other _ _ (Ne.symm hb)).trans e
        obtain ⟨m, hm, hr'⟩ := h2 { s₁.setGen g gs' with toks := (s₁.setGen g gs').toks + 1, heap := s₁.heap.update S (Obj.mapSeq (fun _ => #[Value.int (ns.sum + i) (s₁.setGen g gs').toks])) } (by
          obtain ⟨o, nm, qn, ho, rr⟩ := hpin.is I
          exact ⟨o, nm, qn, kS a o (Ne.symm hSa) ho, rr⟩) (by
          obtain ⟨mc, hns, hnn⟩ := I.nolimit
          exact ⟨mc, hns.at' fun o e => kS _ o (Ne.symm hSc) e, hnn⟩) hgs ⟨rfl, allBare_setGen (s := { s₁.setGen g gs' with toks := _, heap := _ }) (allBare_setGen I.bare hb) rfl, kS, fun T t2 c2 j u2 e1 e2 => by
            have e3 : s₁.heap.get? S = some (sumObj ns.sum t c) := hS'
            rw [e3] at e1
            cases e1; cases e2
            exact ⟨_, _, eS⟩⟩
        exact ih m (by omega) _ _ _ _ eS hr'
      · rename_i hneg
        exact absurd hc hneg
    · obtain ⟨pn, ⟨ns, t1, c1, rfl, rfl⟩, h0, I⟩ := hI
      have e0 := h0 _ List.mem_cons_self
      rw [hS] at e0
      obtain ⟨rfl, rfl, rfl⟩ : T = ns.sum ∧ t = t1 ∧ c = c1 := by
        simp only [Option.some.injEq, Obj.mk.injEq, Data.seq.injEq, Value.int.injEq, true_and, and_true, List.cons.injEq, Array.mk.injEq] at e0
        obtain ⟨⟨h1, h2⟩, h3⟩ := e0
        exact ⟨h1, h2, h3⟩
      exact wpAny_pure (hR ns t _ σ H _ hF (inv_still (s' := { s₁.setGen g .finished with heap := h' }) I rfl (allBare_setGen I.bare rfl) hk))
end
end DL
set_option maxHeartbeats 1000000
namespace DL
open PySem PySem.Spec PyProof.Rows L2 GenW
section
variable {X : Cx} {pins : List (Addr × Obj)} {σ : L2.St} {k : Nat} {a : Addr} {s : Shared} {E : Value → Shared → Prop} {A : Around}
variable {P : Addr} {elt tg iter : Expr} {ifs : List Expr} {scope : Scope} {own : List (Str × Nat)} {wi : TI} {g : TG} {tt : TT} {te : TE} {H : Hp} {nm : Str} {p pos gpos : Pos}
def tSumG (wi : TI) (g : TG) (tt : TT) (te : TE) (vs : List Nat) (P : Addr) : TE := fun σ H Q => tGen wi g tt te vs P (fun ys x _ => ∃ (ns : List Int) (i : Int), ys = ns.map V.int ∧ x = .int i ∧ InLong i ∧ InLong (ns.sum + i)) (fun _ _ _ => False) (fun ys H => ∀ ns : List Int, ys = ns.map V.int → Q (.int ns.sum) H) σ H
theorem pe_sumG (G : GenOk X k P elt tg iter ifs scope own wi g tt te) (hg : Gl X "sum") (hm : X.mg "sum" = none) (hv : bootBuiltins "sum" = some (.builtin "sum"))
    (he : starEach [.GeneratorExp elt [⟨tg, iter, ifs, 0⟩] scope gpos] X.env = (false, eval (.GeneratorExp elt [⟨tg, iter, ifs, 0⟩] scope gpos) X.env) :: starEach [] X.env := by rfl) :
    PE X (.Call (.Name "sum" p) [.GeneratorExp elt [⟨tg, iter, ifs, 0⟩] scope gpos] [] pos) (tSumG wi g tt te (own.map (·.2)) P) := by
  refine ⟨fun pins s σ H Q I h => ?_⟩
  refine wpAny_Call_Name_kw (ld_blt I hg hm hv ?_)
  refine PyProof.Rows.callWith_builtin1 ?_ he (by rfl)
  rw [he]
  show wpAny _ _ (spliced ((false, eval (.GeneratorExp elt [⟨tg, iter, ifs, 0⟩] scope gpos) X.env) :: backTo pos (starEach [] X.env))) _ _ s
  refine Calls.spliced_cons (G.make I h fun a s5 M => ?_)
  refine Calls.spliced_nil ?_
  obtain ⟨g, H2, hgen, hlt, I5, go⟩ := M
  have hcl : cStatics < s5.heap.objs.size := let ⟨_, hn, _⟩ := I5.nolimit; hn.lt
  refine call_function_tree F.kind_sum F.plain_sum F.entry_sum (F.args_sum1 _) ?_
  unfold Builtin.«sum»
  simp only [List.length_cons, List.length_nil]
  rw [if_neg (by decide)]
  refine wpAny_bind (wpAny_of_eq (show Builtin.Builtins.bindParams "sum" ["start"] 0 { } = pure [none] from rfl) ?_)
  refine wpAny_bind (wpAny_pyIter_gen hgen ?_)
  refine wpAny_bind (wpAny_mkInt ?_)
  refine wpAny_bind (wpAny_pure ?_)
  simp only [List.forIn_cons, List.forIn_nil]
  refine wpAny_bind (wpAny_bind (wpAny_bind (wpAny_isInstance (T := "int") (b := false) (typeIs_int _ _ _) PySem.sub_int_str ?_)))
  simp only [Bool.false_eq_true, if_false]
  refine wpAny_pure (wpAny_bind (wpAny_bind (wpAny_isInstance (T := "int") (b := false) (typeIs_int _ _ _) sub_int_bytes ?_)))
  simp only [Bool.false_eq_true, if_false]
  refine wpAny_pure (wpAny_bind (wpAny_bind (wpAny_isInstance (T := "int") (b := false) (typeIs_int _ _ _) sub_int_bytearray ?_)))
  simp only [Bool.false_eq_true, if_false]
  refine wpAny_pure (wpAny_pure ?_)
  refine wpAny_bind (wpAny_newObj_type ?_)
  have hS : (s5.heap.push { cls := .type "list", data := .seq #[.int 0 s5.toks] }).get? s5.heap.objs.size = some (sumObj 0 s5.toks 0) := Heap.get?_push_size _ rfl
  obtain ⟨Xg, fp, e1, e2, hp, rd, back⟩ := go X.A.in1 (conS s5.heap.objs.size fun ys H => ∀ ns : List Int, ys = ns.map V.int → Q (.int ns.sum) H) { s5 with toks := s5.toks + 1, heap := s5.heap.push { cls := .type "list", data := .seq #[.int 0 s5.toks] } } rfl rfl rfl G.hr.hd I.ok.frames (by show X.A.depth ≤ _; omega) (by show X.A.units + 1 ≤ _; omega) rfl rfl (fun b o e => Heap.get?_push_of_some _ e)
    ⟨_, ⟨[], s5.toks, 0, rfl, rfl⟩, fun p hp => by
      rw [List.mem_singleton.mp hp]
      exact ⟨hS, fun v q => by cases q⟩⟩ (fun ys pn ⟨ns, t, c, _, e⟩ p hp => by rw [e] at hp; rw [List.mem_singleton.mp hp]; exact Nat.le_refl _) fun Xg fp y => conS_wakes y
  refine wpAny_pure ⟨plainId_quiet F.plain_sum_loop _, ?_⟩
  rw [← e1, ← e2]
  refine sum_loop G.hr.hd G.hr.depth hp (Nat.ne_of_gt hlt) (Nat.ne_of_gt hcl) (fun ns t pn σ' H' s' q Ig => ?_) sizeLine _ 0 s5.toks 0 hS rd
  exact ⟨.int ns.sum, H', back _ _ _ _ Ig, ⟨t, rfl⟩, q ns rfl⟩
/-! ### join -/
def tJoinGX (wi : TI) (g : TG) (tt : TT) (te : TE) (vs : List Nat) (P : Addr) (to : TE) : TE := fun σ H Q => to σ H fun v H1 => ∃ sep : Str, v = .str sep ∧
  tGen wi g tt te vs P (fun _ _ _ => True) (fun _ _ _ => False) (fun ys H => ∃ ws : List Str, ys = ws.map V.str ∧ JoinOk sep ws = true ∧ Q (.str (Txt.join sep ws)) H) σ H1
theorem strs_of : ∀ {ws : List Str} {us : List Value}, Vals (ws.map V.str) us → ∃ l : List (Str × Tok), strValues l = us ∧ l.map (·.1) = ws
  | [], _, .nil => ⟨[], rfl, rfl⟩
  | w :: ws, _, .cons r t => by
    obtain ⟨l, h1, h2⟩ := strs_of t
    obtain ⟨u, rfl⟩ := r
    exact ⟨(w, u) :: l, by unfold strValues; rw [List.map_cons]; rw [← h1]; rfl, by rw [List.map_cons, h2]⟩
theorem pe_joinGX {o : Expr} {to : TE} {apos : Pos} (G : GenOk X k P elt tg iter ifs scope own wi g tt te) (ho : PE X o to)
    (hbase : attributeBase o "join" X.env (eval o X.env) = eval o X.env := by rfl)
    (hfew : ((backTo pos (starEach [.GeneratorExp elt [⟨tg, iter, ifs, 0⟩] scope gpos] X.env)).all (fun x => !x.1) && (backToKw pos (keywordEach [] X.env)).all (fun x => x.1.isSome)
      && decide (([.GeneratorExp elt [⟨tg, iter, ifs, 0⟩] scope gpos] : List Expr).length + ([] : List Keyword).length + (if ([] : List Keyword).isEmpty then 0 else 1) < 30)) = true := by rfl)
    (hline : (apos.endLine == pos.line) = true := by rfl)
    (he : starEach [.GeneratorExp elt [⟨tg, iter, ifs, 0⟩] scope gpos] X.env = (false, eval (.GeneratorExp elt [⟨tg, iter, ifs, 0⟩] scope gpos) X.env) :: starEach [] X.env := by rfl)
    (hplain : (backTo pos (starEach [] X.env)).any (·.1) = false := by rfl) :
    PE X (.Call (.Attribute o "join" apos) [.GeneratorExp elt [⟨tg, iter, ifs, 0⟩] scope gpos] [] pos) (tJoinGX wi g tt te (own.map (·.2)) P to) := by
  refine ⟨fun pins s σ H Q I h => ?_⟩
  refine wpAny_Call_method_late hbase hfew hline rfl (thn (ho.run pins s σ H _ I h) fun v s1 ⟨x', H1, I1, r1, sep, ex, q1⟩ => ?_)
  subst ex
  obtain ⟨tk, rfl⟩ := (show ∃ t, v = Value.str sep t from r1)
  refine ⟨"str", _, PySem.F.plainAttrs_str, PySem.F.slot_str_join, PySem.F.type_str_join, typeIs_str _ _ _, (fun _ e => nomatch e), ?_⟩
  rw [he]
  refine Calls.callWith_builtin (by show (false || (backTo pos (starEach [] X.env)).any (·.1)) = false; rw [hplain] <;> rfl) (Calls.evalArgs_plain ?_)
  show wpAny _ _ (spliced ((false, eval (.GeneratorExp elt [⟨tg, iter, ifs, 0⟩] scope gpos) X.env) :: backTo pos (starEach [] X.env))) _ _ s1
  refine Calls.spliced_cons (G.make I1 q1 fun a s5 M => ?_)
  refine Calls.spliced_nil ?_
  obtain ⟨gi, hgen⟩ : ∃ g, s5.heap.IsGen a g := let ⟨g, H2, hg, _⟩ := M; ⟨g, hg⟩
  have hTI := Heap.IsGen.typeIs (s := s5) hgen
  refine wpAny_call (codeAny_call_builtin F.slot_str_join.plain F.entry_str_join (F.slot_str_join.check _ _ _ _ _ _ _ _ (typeIs_str _ _ _) (F.args_str_join_2 _ _) ?_))
  show wpAny (model X.prog X.w) X.A.in1 (Builtin.«str.join» ⟨[.str sep tk, .ref a], []⟩) _ _ s5
  rw [join_tree_other]
  refine wpAny_bind (wpAny_typeOf hTI ?_)
  show wpAny _ X.A.in1 ((pyIter (.ref a)).tryCatch _ >>= fun it => collect it >>= fun items => joinTail sep items) _ _ s5
  refine wpAny_bind (wpAny_tryCatch (wpAny_pyIter_gen hgen ?_))
  refine wpAny_bind (collect_gen M ⟨G.hr.hd, I.ok.frames, by show X.A.depth ≤ _; omega, by show X.A.units + 1 ≤ _; omega⟩ G.hr.depth fun ys acc H' s' hF hv hl Ig => ?_)
  obtain ⟨ws, rfl, jok, q⟩ := hF
  obtain ⟨l, hl1, hl2⟩ := strs_of hv
  rw [← hl1]
  have hok : JoinOk sep (l.map (·.1)) = true := by rw [hl2]; exact jok
  have hok' := hok
  unfold JoinOk at hok'
  rw [Bool.not_eq_true'] at hok'
  have gv : Gives (joinTail sep (strValues l)) (joinMade sep l) := by
    have g0 := gives_joinTail sep l hok'
    cases l with
    | nil => exact g0
    | cons p r => cases r with
      | nil => exact g0
      | cons q r' => exact g0
  refine gv X.prog X.w X.A (wants _ X.xe) s' (post_join l ⟨joinFit_length hok', fun t' k' => ?_⟩)
  rw [hl2]
  exact ⟨.str _, H', Ig.tok k', ⟨t', rfl⟩, q⟩
end
end DL
set_option maxHeartbeats 1000000
/-! generator expressions by values. -/
namespace DL
open PySem PySem.Spec PyProof.Rows L2 GenW
/-- the generator's turns, by values -/
def dgen (g : RG) (tt : RT) (te : RE) (grd : DH → Prop) (τ : DSt) (Cn Ex : List D → D → DH → Prop) (Fn : List D → DH → Prop) : List D → List D → DH → Prop
  | acc, [], h => grd h ∧ Fn acc h
  | acc, x :: xs, h => grd h ∧ g x τ h fun τ2 h2 => tt τ2 h2 fun b h3 =>
      Br b (te τ2 h3 fun y h4 => acc.length < sizeLine ∧ (Ex acc y h4 ∨ (Cn acc y h4 ∧ dgen g tt te grd τ Cn Ex Fn (acc ++ [y]) xs h4))) (dgen g tt te grd τ Cn Ex Fn acc xs h3)
theorem dgen_grd {g : RG} {tt : RT} {te : RE} {grd : DH → Prop} {τ : DSt} {Cn Ex : List D → D → DH → Prop} {Fn : List D → DH → Prop} {acc xs : List D} {h : DH} (q : dgen g tt te grd τ Cn Ex Fn acc xs h) : grd h := by
  cases xs with
  | nil => exact q.1
  | cons _ _ => exact q.1
@[reducible] def rGen (ti : RI) (g : RG) (tt : RT) (te : RE) (vs : List Nat) (P : Addr) (Cn Ex : List D → D → DH → Prop) (Fn : List D → DH → Prop) : DSt → DH → Prop := fun τ h => ti τ h fun ds grd h1 => h1 P = some .tb ∧ dgen g tt te grd (wipeD τ vs) Cn Ex Fn [] ds h1
/-- where a generator expression of S runs -/
@[reducible] def Sta.gen (S : Sta) (scope : Scope) (k : Nat) : Sta := { S with sc := scope, k := k, fn := fun _ => false, tab := none }
theorem vw_gen {S : Sta} {r : Rest} {scope : Scope} {k : Nat} (v : Vw S r) {A' : Around} (hr : Room k A') (s : Shared) (H : Hp) (C : Addr) (code : Value) (fp : List Addr) (pn : List (Addr × Obj)) :
    Vw (S.gen scope k) { A := A', s_0 := s, H_0 := H, env := genE (S.cx r) scope C code, outer := r.stack, stack := genE (S.cx r) scope C code :: r.stack, ex := fp, pn := pn } :=
  ⟨rfl, hr, v.nd, fun P e => by cases e⟩
theorem Ext.tabbed {H1 H2 : Hp} {P : Addr} (h : GxR.TabG H1 P) (t : GxR.Tabbed P H1 H2) : Ext H1 H2 := by
  obtain ⟨ps, e, _⟩ := h
  exact ⟨fun a xs q => (t.2 a (ne_of q e (by intro z; cases z))).trans q, fun a o u q => (t.2 a (ne_of q e (by intro z; cases z))).trans q⟩
theorem RelH.tabbed {K : PySem.W.Frag} {h : DH} {H1 H2 : Hp} {P : Addr} (r : RelH K h H1) (hP : h P = some .tb) (t : GxR.Tabbed P H1 H2) : RelH K h H2 := fun a o e => by
  have q := r a o e
  have hT : GxR.TabG H1 P := r P .tb hP
  by_cases z : a = P
  · subst z
    rw [hP] at e; cases e
    exact t.1
  · exact q.move (Ext.tabbed hT t) (t.2 a z)
section
variable {S : Sta} {elt tg iter : Expr} {te : RE} {k : Nat} {P : Addr}
/-- the readings of a generator expression's parts -/
structure GenD (S : Sta) (k : Nat) (P : Addr) (elt tg iter : Expr) (ifs : List Expr) (scope : Scope) (own : List (Str × Nat)) (ti : RI) (g : RG) (tt : RT) (te : RE) : Prop where
  hk : k + 1 ≤ S.k
  tab : S.tab = some P
  hi : DI S tg iter ti
  ok : blkC S.N S.sc scope own = true
  cell : (scope.names.all fun y => !decide (y.2 = .cell)) = true
  co : scope.isCoroutine = false
  dot : scope.names.lookup (".0" : Str) = some NameKind.local
  wr : ∃ ws, DG (S.gen scope k) tg ws g ∧ ∀ j, j ∈ ws → j ∈ own.map (·.2)
  ht : DTs (S.gen scope k) ifs tt
  he : DE (S.gen scope k) elt te
  hs : ∀ env v, genFold iter env v = pure v
variable {ifs : List Expr} {scope : Scope} {own : List (Str × Nat)} {ti : RI} {g : RG} {tt : RT}
def gvG (S : Sta) (scope : Scope) (k : Nat) (tg : Expr) : TG := fun v' σ H Q => ∀ r', Vw (S.gen scope k) r' → gTop ((S.gen scope k).cx r') tg v' σ H Q
def gvT (S : Sta) (scope : Scope) (k : Nat) (ifs : List Expr) : TT := fun σ H Q => ∀ r', Vw (S.gen scope k) r' → ∀ pins s, Inv ((S.gen scope k).cx r') pins σ H s → wpAny (model S.P S.w) r'.A (forIn ifs true fun c r1 => if r1 = true then do let ok ← isTrue c r'.env (eval c r'.env); pure (ForInStep.yield ok) else pure (ForInStep.yield r1)) (TP ((S.gen scope k).cx r') pins σ Q) (fun _ _ => False) s
def gvE (S : Sta) (scope : Scope) (k : Nat) (elt : Expr) : TE := fun σ H Q => ∀ r', Vw (S.gen scope k) r' → tTop ((S.gen scope k).cx r') elt σ H Q
theorem GenD.toOk (G : GenD S k P elt tg iter ifs scope own ti g tt te) {r : Rest} (v : Vw S r) : GenOk (S.cx r) k P elt tg iter ifs scope own (iTop (S.cx r) tg iter) (gvG S scope k tg) (gvT S scope k ifs) (gvE S scope k elt) where
  hr := v.room.mono G.hk
  hc := rfl
  hN := v.nd
  TB := v.tb P G.tab
  hi := piTop
  ok := by show BlkOk S.N r.env.scope scope own; rw [v.sc]; exact blkOk_by G.ok
  hcell := fun y hy e => by
    have z := List.all_eq_true.mp G.cell y hy
    rw [decide_eq_true e] at z
    cases z
  hco := G.co
  hdot := G.dot
  hg := fun A' s H C code fp pn hr => ⟨fun pins s' σ H' w u Q I r1 h => h _ (vw_gen v hr s H C code fp pn) pins s' u I r1⟩
  ht := fun A' s H C code fp pn hr => ⟨fun pins s' σ H' Q I h => h _ (vw_gen v hr s H C code fp pn) pins s' I⟩
  he := fun A' s H C code fp pn hr => ⟨fun pins s' σ H' Q I h => h _ (vw_gen v hr s H C code fp pn) pins s' I⟩
  hs := G.hs _
theorem gen_reading (G : GenD S k P elt tg iter ifs scope own ti g tt te) {τ : DSt} {h : DH} {Cn Ex : List D → D → DH → Prop} {Fn : List D → DH → Prop} {CnV ExV : List V → V → Hp → Prop} {FnV : List V → Hp → Prop}
    (q : rGen ti g tt te (own.map (·.2)) P Cn Ex Fn τ h) {r : Rest} (v : Vw S r) {σ : L2.St} {H : Hp} (hl : σ.length = S.N.length) (rs : RelS S.K h τ σ H)
    (kC : ∀ h' H' acc ys d y, Ext H H' → RelS S.K h' τ σ H' → Reps S.K H' acc ys → Rep S.K H' d y → Cn acc d h' → CnV ys y H')
    (kE : ∀ h' H' acc ys d y, Ext H H' → RelS S.K h' τ σ H' → Reps S.K H' acc ys → Rep S.K H' d y → Ex acc d h' → ExV ys y H')
    (kF : ∀ h' H' acc ys, Ext H H' → RelS S.K h' τ σ H' → Reps S.K H' acc ys → Fn acc h' → FnV ys H') :
    tGen (iTop (S.cx r) tg iter) (gvG S scope k tg) (gvT S scope k ifs) (gvE S scope k elt) (own.map (·.2)) P CnV ExV FnV σ H := by
  obtain ⟨ws, hg, hw⟩ := G.wr
  refine G.hi.run τ h _ q r v σ H _ rs fun ds grd J h1 H1 e1 rs1 wk ⟨hP, q1⟩ => ⟨rs1.ob P .tb hP, fun H2 t2 => ?_⟩
  have eT : Ext H1 H2 := Ext.tabbed (rs1.ob P .tb hP) t2
  have rs2 : RelS S.K h1 τ σ H2 := rs1.to eT (rs1.ob.tabbed hP t2)
  refine ⟨fun i m ys H3 => m = ds.length - i ∧ i ≤ ds.length ∧ ∃ h3 acc, Ext H1 H3 ∧ RelS S.K h3 τ σ H3 ∧ Reps S.K H3 acc ys ∧ dgen g tt te grd (wipeD τ (own.map (·.2))) Cn Ex Fn acc (ds.drop i) h3, ⟨ds.length, by simp, Nat.zero_le _, h1, [], eT, rs2, .nil, by simpa using q1⟩, ?_⟩
  rintro i m ys H3 ⟨rfl, hi', h3, acc, e3, rs3, ra, q3⟩
  have hgr := dgen_grd q3
  by_cases hlt : i < ds.length
  · rw [List.drop_eq_getElem_cons hlt] at q3
    refine .inr ⟨wk.go i h3 H3 e3 rs3.ob hgr hlt, fun x H4 hy r1 v1 => ?_⟩
    obtain ⟨e4, rh4, d, hd, rd⟩ := wk.yld i h3 H3 x H4 e3 rs3.ob hgr hlt hy
    rw [List.getElem?_eq_getElem hlt] at hd
    cases hd
    have rs4 : RelS S.K h3 (wipeD τ (own.map (·.2))) (wipe σ (own.map (·.2))) H4 := (rs3.to e4 rh4).wipe _
    refine hg.run _ _ h3 _ q3.2 r1 v1 x _ H4 _ (by rw [wipe_length]; exact hl) rs4 rd fun τ5 h5 σ5 H5 e5 rs5 l5 t5 q5 => ⟨?_, fun r2 v2 => ?_⟩
    · refine wipe_same (l5.trans (wipe_length _ _)) fun j hj => ?_
      rw [t5 j fun z => hj (hw j z), wipe_get hj]
    · refine G.ht.run τ5 h5 _ q5 r2 v2 σ5 H5 _ rs5 fun b h6 H6 e6 rs6 q6 => ?_
      have e16 := ((e3.trans e4).trans e5).trans e6
      have keep : ∀ (h7 : DH) (H7 : Hp), Ext H1 H7 → RelH S.K h7 H7 → RelS S.K h7 τ σ H7 := fun h7 H7 e7 o7 => rs1.to e7 o7
      cases b with
      | true =>
        refine iteT fun r3 v3 => ?_
        refine G.he.run τ5 h6 _ (q6.1 rfl) r3 v3 σ5 H6 _ rs6 fun dy y h7 H7 e7 rs7 rp7 ⟨hz, q7⟩ => ?_
        have ra7 := ra.ext (((e4.trans e5).trans e6).trans e7)
        have e17 := e16.trans e7
        refine ⟨by rw [← ra.length]; exact hz, ?_⟩
        rcases q7 with q7 | ⟨c7, q7⟩
        · exact .inl (kE _ _ _ _ _ _ (e1.trans e17) (keep _ _ e17 rs7.ob) ra7 rp7 q7)
        · exact .inr ⟨kC _ _ _ _ _ _ (e1.trans e17) (keep _ _ e17 rs7.ob) ra7 rp7 c7, _, by omega, rfl, hlt, h7, acc ++ [dy], e17, keep _ _ e17 rs7.ob, ra7.append (.one rp7), q7⟩
      | false =>
        exact iteF ⟨_, by omega, rfl, hlt, h6, acc, e16, keep _ _ e16 rs6.ob, ra.ext ((e4.trans e5).trans e6), q6.2 rfl⟩
  · obtain rfl : i = ds.length := by omega
    rw [List.drop_length] at q3
    exact .inl ⟨wk.stop h3 H3 e3 rs3.ob hgr, kF _ _ _ _ (e1.trans e3) rs3 ra q3.2⟩
variable {p pos gpos : Pos}
def dall (g : RG) (tt : RT) (te : RE) (grd : DH → Prop) (τ : DSt) (Q : RK) (xs : List D) (h : DH) : Prop := dgen g tt te grd τ (fun _ y _ => y = .bl true) (fun _ y h => y = .bl false ∧ Q (.bl false) h) (fun _ h => Q (.bl true) h) [] xs h
def dany (g : RG) (tt : RT) (te : RE) (grd : DH → Prop) (τ : DSt) (Q : RK) (xs : List D) (h : DH) : Prop := dgen g tt te grd τ (fun _ y _ => y = .bl false) (fun _ y h => y = .bl true ∧ Q (.bl true) h) (fun _ h => Q (.bl false) h) [] xs h
def dtup (g : RG) (tt : RT) (te : RE) (grd : DH → Prop) (τ : DSt) (Q : RK) (xs : List D) (h : DH) : Prop := dgen g tt te grd τ (fun _ _ _ => True) (fun _ _ _ => False) (fun acc h => Q (.tup acc) h) [] xs h
def dsum (g : RG) (tt : RT) (te : RE) (grd : DH → Prop) (τ : DSt) (Q : RK) (xs : List D) (h : DH) : Prop := dgen g tt te grd τ (fun acc y _ => ∃ (ns : List Int) (i : Int), acc = ns.map D.int ∧ y = .int i ∧ InLong i ∧ InLong (ns.sum + i)) (fun _ _ _ => False) (fun acc h => ∀ ns : List Int, acc = ns.map D.int → Q (.int ns.sum) h) [] xs h
def djoin (sep : Str) (g : RG) (tt : RT) (te : RE) (grd : DH → Prop) (τ : DSt) (Q : RK) (xs : List D) (h : DH) : Prop := dgen g tt te grd τ (fun _ _ _ => True) (fun _ _ _ => False) (fun acc h => ∃ ws : List Str, acc = ws.map D.str ∧ JoinOk sep ws = true ∧ Q (.str (Txt.join sep ws)) h) [] xs h
@[reducible] def rAllG (ti : RI) (g : RG) (tt : RT) (te : RE) (vs : List Nat) (P : Addr) : RE := fun τ h Q => ti τ h fun ds grd h1 => h1 P = some .tb ∧ dall g tt te grd (wipeD τ vs) Q ds h1
@[reducible] def rAnyG (ti : RI) (g : RG) (tt : RT) (te : RE) (vs : List Nat) (P : Addr) : RE := fun τ h Q => ti τ h fun ds grd h1 => h1 P = some .tb ∧ dany g tt te grd (wipeD τ vs) Q ds h1
theorem de_allG (G : GenD S k P elt tg iter ifs scope own ti g tt te) (hg : glbI S.sc "all" = true) (hm : S.mg "all" = none) (hv : bootBuiltins "all" = some (.builtin "all")) (hs : ∀ env, starEach [.GeneratorExp elt [⟨tg, iter, ifs, 0⟩] scope gpos] env = (false, eval (.GeneratorExp elt [⟨tg, iter, ifs, 0⟩] scope gpos) env) :: starEach [] env) :
    DE S (.Call (.Name "all" p) [.GeneratorExp elt [⟨tg, iter, ifs, 0⟩] scope gpos] [] pos) (rAllG ti g tt te (own.map (·.2)) P) := by
  refine ⟨fun τ h Q q r v σ H QV rs kt pins s I => ?_⟩
  refine (pe_allG (G.toOk v) (gl_of v hg) hm hv (hs _)).run pins s σ H QV I (gen_reading G (show rGen ti g tt te (own.map (·.2)) P (fun _ y _ => y = .bl true) (fun _ y h => y = .bl false ∧ Q (.bl false) h) (fun _ h => Q (.bl true) h) τ h from q) v I.len rs ?_ ?_ ?_)
  · rintro h' H' acc ys d y e rs' ra rp rfl
    cases rp; rfl
  · rintro h' H' acc ys d y e rs' ra rp ⟨rfl, q⟩
    cases rp
    exact ⟨rfl, kt _ _ _ _ e rs' (.bl false) q⟩
  · rintro h' H' acc ys e rs' ra q
    exact kt _ _ _ _ e rs' (.bl true) q
theorem de_anyG (G : GenD S k P elt tg iter ifs scope own ti g tt te) (hg : glbI S.sc "any" = true) (hm : S.mg "any" = none) (hv : bootBuiltins "any" = some (.builtin "any")) (hs : ∀ env, starEach [.GeneratorExp elt [⟨tg, iter, ifs, 0⟩] scope gpos] env = (false, eval (.GeneratorExp elt [⟨tg, iter, ifs, 0⟩] scope gpos) env) :: starEach [] env) :
    DE S (.Call (.Name "any" p) [.GeneratorExp elt [⟨tg, iter, ifs, 0⟩] scope gpos] [] pos) (rAnyG ti g tt te (own.map (·.2)) P) := by
  refine ⟨fun τ h Q q r v σ H QV rs kt pins s I => ?_⟩
  refine (pe_anyG (G.toOk v) (gl_of v hg) hm hv (hs _)).run pins s σ H QV I (gen_reading G (show rGen ti g tt te (own.map (·.2)) P (fun _ y _ => y = .bl false) (fun _ y h => y = .bl true ∧ Q (.bl true) h) (fun _ h => Q (.bl false) h) τ h from q) v I.len rs ?_ ?_ ?_)
  · rintro h' H' acc ys d y e rs' ra rp rfl
    cases rp; rfl
  · rintro h' H' acc ys d y e rs' ra rp ⟨rfl, q⟩
    cases rp
    exact ⟨rfl, kt _ _ _ _ e rs' (.bl true) q⟩
  · rintro h' H' acc ys e rs' ra q
    exact kt _ _ _ _ e rs' (.bl false) q
@[reducible] def rTupG (ti : RI) (g : RG) (tt : RT) (te : RE) (vs : List Nat) (P : Addr) : RE := fun τ h Q => ti τ h fun ds grd h1 => h1 P = some .tb ∧ dtup g tt te grd (wipeD τ vs) Q ds h1
theorem de_tupG (G : GenD S k P elt tg iter ifs scope own ti g tt te) (hg : glbI S.sc "tuple" = true) (hm : S.mg "tuple" = none) (hv : bootBuiltins "tuple" = some (.type "tuple")) (hs : ∀ env, starEach [.GeneratorExp elt [⟨tg, iter, ifs, 0⟩] scope gpos] env = (false, eval (.GeneratorExp elt [⟨tg, iter, ifs, 0⟩] scope gpos) env) :: starEach [] env) :
    DE S (.Call (.Name "tuple" p) [.GeneratorExp elt [⟨tg, iter, ifs, 0⟩] scope gpos] [] pos) (rTupG ti g tt te (own.map (·.2)) P) := by
  refine ⟨fun τ h Q q r v σ H QV rs kt pins s I => ?_⟩
  refine (pe_tupG (G.toOk v) (gl_of v hg) hm hv (hs _)).run pins s σ H QV I (gen_reading G (show rGen ti g tt te (own.map (·.2)) P (fun _ _ _ => True) (fun _ _ _ => False) (fun acc h => Q (.tup acc) h) τ h from q) v I.len rs ?_ ?_ ?_)
  · exact fun _ _ _ _ _ _ _ _ _ _ _ => trivial
  · exact fun _ _ _ _ _ _ _ _ _ _ z => z
  · intro h' H' acc ys e rs' ra q l nl
    exact kt (.tup acc) (.ref l) h' _ (e.trans (.new nl)) (rs'.to (.new nl) (rs'.ob.new nl)) (.tup (.inl (.inl upd_same)) (ra.ext (.new nl))) q
@[reducible] def rSumG (ti : RI) (g : RG) (tt : RT) (te : RE) (vs : List Nat) (P : Addr) : RE := fun τ h Q => ti τ h fun ds grd h1 => h1 P = some .tb ∧ dsum g tt te grd (wipeD τ vs) Q ds h1
theorem de_sumG (G : GenD S k P elt tg iter ifs scope own ti g tt te) (hg : glbI S.sc "sum" = true) (hm : S.mg "sum" = none) (hv : bootBuiltins "sum" = some (.builtin "sum")) (hs : ∀ env, starEach [.GeneratorExp elt [⟨tg, iter, ifs, 0⟩] scope gpos] env = (false, eval (.GeneratorExp elt [⟨tg, iter, ifs, 0⟩] scope gpos) env) :: starEach [] env) :
    DE S (.Call (.Name "sum" p) [.GeneratorExp elt [⟨tg, iter, ifs, 0⟩] scope gpos] [] pos) (rSumG ti g tt te (own.map (·.2)) P) := by
  refine ⟨fun τ h Q q r v σ H QV rs kt pins s I => ?_⟩
  refine (pe_sumG (G.toOk v) (gl_of v hg) hm hv (hs _)).run pins s σ H QV I (gen_reading G (show rGen ti g tt te (own.map (·.2)) P (fun acc y _ => ∃ (ns : List Int) (i : Int), acc = ns.map D.int ∧ y = .int i ∧ InLong i ∧ InLong (ns.sum + i)) (fun _ _ _ => False) (fun acc h => ∀ ns : List Int, acc = ns.map D.int → Q (.int ns.sum) h) τ h from q) v I.len rs ?_ ?_ ?_)
  · rintro h' H' acc ys d y e rs' ra rp ⟨ns, i, rfl, rfl, f1, f2⟩
    cases rp
    exact ⟨ns, i, ra.ints, rfl, f1, f2⟩
  · exact fun _ _ _ _ _ _ _ _ _ _ z => z
  · rintro h' H' acc ys e rs' ra q ns rfl
    exact kt _ _ _ _ e rs' (.int ns.sum) (q ns ra.ofIntsV)
theorem Reps.strs {K : PySem.W.Frag} {H : Hp} : ∀ {ws : List Str} {vs : List V}, Reps K H (ws.map D.str) vs → vs = ws.map V.str
  | [], _, .nil => rfl
  | _ :: _, _, .cons (.str _) t => congrArg _ (Reps.strs t)
@[reducible] def rJoinG (to : RE) (ti : RI) (g : RG) (tt : RT) (te : RE) (vs : List Nat) (P : Addr) : RE := fun τ h Q => to τ h fun d h1 => match d with
  | .str sep => ti τ h1 fun ds grd h2 => h2 P = some .tb ∧ djoin sep g tt te grd (wipeD τ vs) Q ds h2
  | _ => False
theorem de_joinG {o : Expr} {to : RE} {apos : Pos} (G : GenD S k P elt tg iter ifs scope own ti g tt te) (ho : DE S o to)
    (hbase : ∀ env, attributeBase o "join" env (eval o env) = eval o env)
    (hfew : ∀ env, ((backTo pos (starEach [.GeneratorExp elt [⟨tg, iter, ifs, 0⟩] scope gpos] env)).all (fun x => !x.1) && (backToKw pos (keywordEach [] env)).all (fun x => x.1.isSome)
      && decide (([.GeneratorExp elt [⟨tg, iter, ifs, 0⟩] scope gpos] : List Expr).length + ([] : List Keyword).length + (if ([] : List Keyword).isEmpty then 0 else 1) < 30)) = true)
    (hline : (apos.endLine == pos.line) = true)
    (hs : ∀ env, starEach [.GeneratorExp elt [⟨tg, iter, ifs, 0⟩] scope gpos] env = (false, eval (.GeneratorExp elt [⟨tg, iter, ifs, 0⟩] scope gpos) env) :: starEach [] env) :
    DE S (.Call (.Attribute o "join" apos) [.GeneratorExp elt [⟨tg, iter, ifs, 0⟩] scope gpos] [] pos) (rJoinG to ti g tt te (own.map (·.2)) P) := by
  refine ⟨fun τ h Q q r v σ H QV rs kt pins s I => ?_⟩
  refine (pe_joinGX (G.toOk v) peTop (hbase _) (hfew _) hline (hs _)).run pins s σ H QV I ?_
  refine ho.run τ h _ q r v σ H _ rs fun dy y h1 H1 e1 rs1 rp1 q1 => ?_
  cases rp1 <;> try exact q1.elim
  rename_i sep
  refine ⟨sep, rfl, gen_reading G (show rGen ti g tt te (own.map (·.2)) P (fun _ _ _ => True) (fun _ _ _ => False) (fun acc h => ∃ ws : List Str, acc = ws.map D.str ∧ JoinOk sep ws = true ∧ Q (.str (Txt.join sep ws)) h) τ h1 from q1) v I.len rs1 ?_ ?_ ?_⟩
  · exact fun _ _ _ _ _ _ _ _ _ _ _ => trivial
  · exact fun _ _ _ _ _ _ _ _ _ _ z => z
  · rintro h' H' acc ys e rs' ra ⟨ws, rfl, jok, q⟩
    exact ⟨ws, ra.strs, jok, kt _ _ _ _ (e1.trans e) rs' (.str _) q⟩
end
end DL
set_option maxHeartbeats 1000000
/-! the law's end where defs hold generator expressions. -/
namespace DL
open PySem PySem.Spec PyProof.Rows L2
/-- what is tracked at the law's entry: the tables Ts, the script at a (where the written part doesn't hold it) -/
def startH (K : PySem.W.Frag) (Ts : List Addr) (a : Addr) (o : Obj) (xs : List V) : Hp := fun b => if b ∈ Ts then some (.tbl #[]) else if b = a ∧ K.lookup a = none then some (.frz o (.lst xs)) else none
section
variable {K : PySem.W.Frag} {Ts : List Addr} {a : Addr} {o : Obj} {xs : List V}
theorem startH_tab {b : Addr} (h : b ∈ Ts) : startH K Ts a o xs b = some (.tbl #[]) := if_pos h
theorem startH_frz (h : a ∉ Ts) (n : K.lookup a = none) : startH K Ts a o xs a = some (.frz o (.lst xs)) := (if_neg h).trans (if_pos ⟨rfl, n⟩)
theorem startH_cases {b : Addr} {u : HO} (h : startH K Ts a o xs b = some u) : (b ∈ Ts ∧ u = .tbl #[]) ∨ (b ∉ Ts ∧ b = a ∧ K.lookup a = none ∧ u = .frz o (.lst xs)) := by
  unfold startH at h
  split at h
  · rename_i q; cases h; exact .inl ⟨q, rfl⟩
  · rename_i q
    split at h
    · rename_i z; cases h; exact .inr ⟨q, z.1, z.2, rfl⟩
    · cases h
end
theorem law_callT {P : Program} {w : World} {K : PySem.W.Frag} {mg mb : Str → Option Value} {k : Nat} {fa a : Addr} {cs : List (Addr × Addr)} {fd : FuncData} {x : Str} {sp : Sp} {s₁ : Shared} {vs : List Value} {ns : List Int}
    (KX : K.In s₁.heap) (hns : s₁.heap.Ns mainGlobals mg) (hb : s₁.heap.Ns builtinsNs mb) (hbb : ∀ x : Str, x ≠ "__name__" → mb x = bootBuiltins x) (hlim : s₁.heap.NoLimit) (hg : s₁.gens = #[])
    (hT : ∀ p ∈ cs, s₁.heap.get? p.2 = some { cls := .none, data := .fields #[] }) (nT : ∀ p ∈ cs, K.lookup p.2 = none) (C : ∀ p ∈ cs, PySem.W.CodeHd s₁.heap p.1 p.2)
    (hbm : ∃ (bm : Addr) (ob : Obj), mg "__builtins__" = some (.ref bm) ∧ bm ≠ builtinsNs ∧ s₁.heap.get? bm = some ob ∧ ob.cls = .type "module" ∧ ob.dict = some builtinsNs ∧ ob.data = .plain)
    (ha : s₁.heap.get? a = some { cls := .type "list", data := .seq vs.toArray }) (hi : IntsAre vs ns) (hl : ns.length ≤ sizeLine) (hr : Room k callerA)
    (F : ∀ base : Heap, K.In base → base.Ns mainGlobals mg → (∀ p ∈ cs, GxR.TabB base mg p.1 p.2) → FnOk P w K mg base CX0 k fa fd [x] sp) (hbind : ∀ (s : Shared) (u : Value), BindsTo s fd ⟨[u], []⟩ [(x, u)])
    (hsp : ∀ H : Hp, (∀ p ∈ cs, H p.2 = some (.tbl #[])) → FrzL K H a (ns.map V.int) → sp [.ref a] H (fun v _ => v = .bl true) fun _ _ _ => False) :
    codeAny (model P w) callerA (.call (.ref fa) ⟨[.ref a], []⟩) (fun r s' => r = .ok (.ret (.bool true)) ∧ OldK s₁.heap s'.heap ∧ s'.os = s₁.os ∧ AllBare s'.gens) s₁ := by
  have rv := vals_ints hi
  have hlv : ns.length = vs.length := by have := rv.length; simpa using this
  have memT : ∀ p ∈ cs, p.2 ∈ cs.map (·.2) := fun p hp => List.mem_map.mpr ⟨p, hp, rfl⟩
  have atT : ∀ b, b ∈ cs.map (·.2) → ∃ p ∈ cs, p.2 = b := fun b h => by
    obtain ⟨p, hp, e⟩ := List.mem_map.mp h
    exact ⟨p, hp, e⟩
  have isT : ∀ b, b ∈ cs.map (·.2) → s₁.heap.get? b = some { cls := .none, data := .fields #[] } ∧ K.lookup b = none := fun b h => by
    obtain ⟨p, hp, rfl⟩ := atT b h
    exact ⟨hT p hp, nT p hp⟩
  have aT : a ∉ cs.map (·.2) := fun z => by
    have q := (isT a z).1
    rw [ha] at q
    cases congrArg Obj.data (Option.some.inj q)
  generalize hH : startH K (cs.map (·.2)) a { cls := .type "list", data := .seq vs.toArray } (ns.map V.int) = H
  have tab : ∀ b, b ∈ cs.map (·.2) → H b = some (.tbl #[]) := fun b h => by rw [← hH]; exact startH_tab h
  have cas : ∀ b u, H b = some u → (b ∈ cs.map (·.2) ∧ u = .tbl #[]) ∨ (b ∉ cs.map (·.2) ∧ b = a ∧ K.lookup a = none ∧ u = .frz { cls := .type "list", data := .seq vs.toArray } (.lst (ns.map V.int))) := fun b u h => by rw [← hH] at h; exact startH_cases h
  have frz : FrzL K H a (ns.map V.int) := by
    cases hk : K.lookup a with
    | none => exact .inl ⟨_, by rw [← hH]; exact startH_frz aT hk⟩
    | some o =>
      have e := KX a o hk
      rw [ha] at e
      cases e
      exact .inr ⟨_, vs.toArray, _, hk, rfl, rfl, rfl, by rw [List.size_toArray]; omega, by simpa using rv⟩
  have hok : HOk P w H s₁.heap := fun b u e => by
    rcases cas b u e with ⟨h1, rfl⟩ | ⟨_, rfl, _, rfl⟩
    · exact (isT b h1).1
    · exact ⟨ha, by rw [List.length_map]; exact hl, vs, _, rv, ha⟩
  -- what is neither a list nor an empty table is not tracked
  have off : ∀ {b : Addr} {ob : Obj}, s₁.heap.get? b = some ob → (∀ us n, ob.data ≠ .seq us n) → ob.data ≠ .fields #[] → H b = none := fun {b ob} e d1 d2 => by
    cases q : H b with
    | none => rfl
    | some u =>
      rcases cas b u q with ⟨h1, _⟩ | ⟨_, rfl, _, _⟩
      · rw [(isT b h1).1] at e; cases e; exact absurd rfl d2
      · rw [ha] at e; cases e; exact absurd rfl (d1 _ _)
  have kof : ∀ b ob, K.lookup b = some ob → H b = none := fun b ob e => by
    cases q : H b with
    | none => rfl
    | some u =>
      rcases cas b u q with ⟨h1, _⟩ | ⟨_, rfl, h2, _⟩
      · rw [(isT b h1).2] at e; cases e
      · rw [h2] at e; cases e
  have hid : ∀ {b : Addr} {ob : Obj}, s₁.heap.get? b = some ob → H b = none → (hidT s₁.heap H).get? b = some ob := fun e n => hidT_get e n
  have nsK : ∀ {b : Addr} {m : Str → Option Value}, s₁.heap.Ns b m → (hidT s₁.heap H).Ns b m := fun {b m} ⟨ob, es, ep, e, d, r⟩ =>
    ⟨ob, es, ep, hid e (off e (fun us n z => by rw [d] at z; cases z) fun z => by rw [d] at z; cases z), d, r⟩
  have KB : K.In (hidT s₁.heap H) := fun b ob e => hid (KX b ob e) (kof b ob e)
  have md : L2.Mod K mg (hidT s₁.heap H) := ⟨KB, nsK hns, ⟨mb, nsK hb, hbb⟩, let ⟨mc, h1, h2⟩ := hlim; ⟨mc, nsK h1, h2⟩⟩
  have noG : ∀ b, b ∈ cs.map (·.2) → mainGlobals ≠ b := fun b h z => by
    obtain ⟨ob, es, ep, e, d, _⟩ := hns
    rw [z, (isT b h).1] at e
    cases e; cases d
  have TB : ∀ p ∈ cs, GxR.TabB (hidT s₁.heap H) mg p.1 p.2 := fun p hp => by
    refine ⟨?_, ?_, noG _ (memT p hp)⟩
    · obtain ⟨ob, us, file, tf, flags, tg, inF, text, tt, e1, r1, r2, rest⟩ := C p hp
      refine ⟨ob, us, file, tf, flags, tg, inF, text, tt, hid e1 (off e1 (fun us n z => ?_) fun z => ?_), r1, r2, rest⟩
      · rw [r2] at z; cases z
      · rw [r2] at z; cases z
        simp at r1 rest
    · obtain ⟨bm, ob, b1, b2, b3, b4, b5, b6⟩ := hbm
      refine ⟨bm, ob, b1, b2, fun q => ?_, fun q => ?_, hid b3 (off b3 (fun us n z => ?_) fun z => ?_), b4, b5, b6⟩
      · obtain ⟨oo, es, ep, e, d, _⟩ := hns
        rw [← q, b3] at e
        cases e
        rw [b6] at d; cases d
      · rw [q, hT p hp] at b3
        cases b3; cases b6
      · rw [b6] at z; cases z
      · rw [b6] at z; cases z
  have e0 : Env0 P w K mg (hidT s₁.heap H) callerA [] s₁ H := ⟨rfl, md, fun b ob e => of_hidT e, Nat.le_of_eq (hidT_size _ _), trivial, fun b hb => (by cases hb), hok, .of_eq hg⟩
  refine codeAny_mono ((F _ KB (nsK hns) TB).run callerA [] s₁ H ⟨[.ref a], []⟩ [.ref a] [.ref a] _ _ hr e0 (hbind s₁ (.ref a)) (.cons rfl .nil) (hsp H (fun p hp => tab _ (memT p hp)) frz)) fun r s' h => ?_
  cases r with
  | error e => exact False.elim h
  | ok fl =>
    cases fl with
    | next => exact False.elim h
    | brk => exact False.elim h
    | cont => exact False.elim h
    | ret u =>
      obtain ⟨v, H', os, bare, un, hok', r', q⟩ := h
      obtain rfl : v = .bl true := q
      obtain rfl : u = Value.bool true := r'
      have key : ∀ b ob, b ∉ cs.map (·.2) → s₁.heap.get? b = some ob → s'.heap.get? b = some ob := fun b ob nb e => by
        cases q : H b with
        | none => exact un.keep b ob e q (fun z => by cases z) (fun z => by cases z)
        | some u =>
          rcases cas b u q with ⟨z, _⟩ | ⟨_, rfl, _, rfl⟩
          · exact absurd z nb
          · have e2 := (hok' b _ (un.frzs b _ _ q)).1
            rw [ha] at e; cases e
            exact e2
      have grown : ∀ b, b ∈ cs.map (·.2) → ∃ more : Array Value, s'.heap.get? b = some { cls := .none, data := .fields more } := fun b h => by
        obtain ⟨more, z⟩ := un.tbls b #[] (tab b h)
        exact ⟨_, hok' b _ z⟩
      refine ⟨rfl, ⟨fun b ob e => ?_, fun b ob e => ?_⟩, os, bare⟩
      · by_cases hb : b ∈ cs.map (·.2)
        · obtain ⟨p, hp, rfl⟩ := atT b hb
          obtain ⟨more, hm⟩ := grown _ hb
          rw [hT p hp] at e
          cases e
          exact .inr (.inl ⟨((C p hp).tab (hT p hp)).isCodeTable, rfl, #[], more, rfl, by rw [Array.empty_append]; exact hm⟩)
        · exact .inl (key b ob hb e)
      · by_cases hb : b ∈ cs.map (·.2)
        · obtain ⟨more, hm⟩ := grown _ hb
          exact ⟨_, hm⟩
        · exact ⟨ob, key b ob hb e⟩
/-- the law's promise where defs hold tables -/
def sp_lawT (Ps : List Addr) : DSp := fun ds h Q => ∃ ns : List Int, ds = [.scr ns] ∧ ns.length ≤ 63 ∧ (∀ P ∈ Ps, h P = some .tb) ∧ Q (.bl true) h
def tabOk (K : PySem.W.Frag) (x : Str) : Bool := match PySem.W.tabIn K x with
  | some q => (K.lookup q.2).isNone
  | none => false
theorem tabOk_of {K : PySem.W.Frag} {x : Str} (h : tabOk K x = true) : ∃ c P, PySem.W.tabIn K x = some (c, P) ∧ K.lookup P = none := by
  unfold tabOk at h
  split at h
  · rename_i q e
    exact ⟨q.1, q.2, e, Option.isNone_iff_eq_none.mp h⟩
  · cases h
theorem tabIn_code {K : PySem.W.Frag} {x : Str} {f c P : Addr} {oc : Value} {od : Option Addr} {fd : FuncData} {sl : Array (Option Value)} (a : PySem.W.nsIn K mainGlobals x = some (some (.ref f))) (l : K.lookup f = some ⟨oc, od, .func fd, sl⟩) (t : PySem.W.tabIn K x = some (c, P)) : fd.code = .ref c := by
  unfold PySem.W.tabIn at t
  rw [a] at t
  simp only [l] at t
  split at t
  · rename_i c' e
    split at t
    · split at t
      · cases t; exact e
      · cases t
    · cases t
  · cases t
theorem law_walkT {l : PySem.W.OpenLaw} {k : Nat} {q : Program} {loose : List Str} {XP : (Str → Option Value) → Heap → Prop} {YP : World → Heap → Prop} {d : DefRec} {K : Params → PySem.W.Frag} (tn : List Str) (hn : l.most = some 63) (hdf : d.params.defaults = []) (hr : Room k callerA)
    (hY : ∀ (w : World) (h : Heap), YP w h → (K w.params).In h) (htn : (tn.all fun x => (recsOf q).any fun e => e.name == x) = true)
    (F : ∀ (w : World) (mg : Str → Option Value) (fa : Addr) (h : Heap), (K w.params).In h → h.Ns mainGlobals mg → mg d.name = some (.ref fa) →
      ∃ (fd : FuncData) (cs : List (Str × Addr × Addr)), cs.map (·.1) = tn ∧ (∀ p ∈ cs, PySem.W.tabIn (K w.params) p.1 = some p.2 ∧ (K w.params).lookup p.2.2 = none) ∧ (∀ (s : Shared) (u : Value), BindsTo s fd ⟨[u], []⟩ [("script", u)]) ∧
        ∀ base : Heap, (K w.params).In base → base.Ns mainGlobals mg → (∀ p ∈ cs, GxR.TabB base mg p.2.1 p.2.2) → FnOk l.prog w (K w.params) mg base CX0 k fa fd ["script"] (toSp (K w.params) (sp_lawT (cs.map (·.2.2))))) :
    PySem.W.WalkO q loose XP YP l.row.toRowW d [] (fun f vs => PySem.call f vs) := by
  refine Att.attach_callB hn hdf fun w s₀ s₁ mg mb fa o pm cd doc a vs ns G Y ho hd hcd hmg hobj hints hlen hbits hg => ?_
  have KX := hY w _ Y
  obtain ⟨fd, cs, hcs, hin, hb, hF⟩ := F w mg fa _ KX G.T.g hmg
  have tabs : ∀ p ∈ cs, PySem.W.CodeHd s₁.heap p.2.1 p.2.2 ∧ s₁.heap.get? p.2.2 = some { cls := .none, data := .fields #[] } := fun p hp => by
    have h1 := List.all_eq_true.mp htn p.1 (by rw [← hcs]; exact List.mem_map.mpr ⟨p, hp, rfl⟩)
    cases hf : (recsOf q).find? (fun e => e.name == p.1) with
    | none =>
      obtain ⟨e, he, hq⟩ := List.any_eq_true.mp h1
      exact absurd hq (List.find?_eq_none.mp hf e he)
    | some dd => exact PySem.W.tab_of (c := p.2.1) (P := p.2.2) G.T KX hf (hin p hp).1
  refine law_callT (cs := cs.map (·.2)) KX G.T.g G.T.b G.T.builtins G.T.nolimit hg (fun p hp => ?_) (fun p hp => ?_) (fun p hp => ?_) G.T.bmain hobj hints (Nat.le_trans hlen (by decide)) hr (fun base h1 h2 h3 => hF base h1 h2 fun p hp => h3 p.2 (List.mem_map.mpr ⟨p, hp, rfl⟩)) hb fun H hH hS => ?_
  · obtain ⟨p', hp', rfl⟩ := List.mem_map.mp hp
    exact (tabs p' hp').2
  · obtain ⟨p', hp', rfl⟩ := List.mem_map.mp hp
    exact (hin p' hp').2
  · obtain ⟨p', hp', rfl⟩ := List.mem_map.mp hp
    exact (tabs p' hp').1
  · refine ⟨[.scr ns], fun b => if b ∈ cs.map (·.2.2) then some .tb else none, fun dd _ => dd = .bl true, .cons (.scr hS) .nil, fun b ob e => ?_, ⟨ns, rfl, hlen, fun P hP => if_pos hP, rfl⟩, ?_⟩
    · have e : (if b ∈ cs.map (·.2.2) then some DO.tb else none) = some ob := e
      split at e
      · rename_i hb
        cases e
        obtain ⟨p, hp, rfl⟩ := List.mem_map.mp hb
        exact ⟨#[], hH p.2 (List.mem_map.mpr ⟨p, hp, rfl⟩), trivial⟩
      · cases e
    · rintro dd h' v H' _ _ r rfl
      cases r; rfl
end DL
set_option maxHeartbeats 1000000
/-! more rules by values: generator expressions' loops, zip, comprehensions that are stored. -/
namespace DL
open PySem PySem.Spec PyProof.Rows L2
/-! ### a generator's turns by what holds -/
theorem dgen_inv {g : RG} {tt : RT} {te : RE} {grd : DH → Prop} {τ : DSt} {Cn Ex : List D → D → DH → Prop} {Fn : List D → DH → Prop} {acc : List D} {h : DH} (xs : List D) (I : Nat → List D → DH → Prop) (h0 : I 0 acc h) (hg : ∀ i acc h, I i acc h → grd h)
    (hs : ∀ i x acc h (Y : D → DH → Prop) (N : DH → Prop), xs[i]? = some x → I i acc h → (∀ y h', acc.length < sizeLine ∧ (Ex acc y h' ∨ (Cn acc y h' ∧ I (i + 1) (acc ++ [y]) h')) → Y y h') → (∀ h', I (i + 1) acc h' → N h') →
      g x τ h fun τ2 h2 => tt τ2 h2 fun b h3 => Br b (te τ2 h3 Y) (N h3))
    (hd : ∀ acc h, I xs.length acc h → Fn acc h) : dgen g tt te grd τ Cn Ex Fn acc xs h := by
  have aux : ∀ (suf pre : List D) acc h, pre ++ suf = xs → I pre.length acc h → dgen g tt te grd τ Cn Ex Fn acc suf h := by
    intro suf
    induction suf with
    | nil =>
      intro pre acc h e i
      rw [List.append_nil] at e
      subst e
      exact ⟨hg _ _ _ i, hd _ _ i⟩
    | cons x suf ih =>
      intro pre acc h e i
      have e2 : (pre ++ [x]) ++ suf = xs := by rw [← e]; simp
      refine ⟨hg _ _ _ i, hs pre.length x acc h _ _ (by rw [← e]; simp) i (fun y h' ⟨z, q⟩ => ⟨z, q.imp id fun ⟨c, i'⟩ => ⟨c, ih (pre ++ [x]) _ _ e2 (by simpa using i')⟩⟩) fun h' i' => ih (pre ++ [x]) _ _ e2 (by simpa using i')⟩
  exact aux xs [] acc h rfl h0
/-- elements by their place, the heap stays -/
theorem dgen_map {g : RG} {tt : RT} {te : RE} {grd : DH → Prop} {τ : DSt} {Cn Ex : List D → D → DH → Prop} {Fn : List D → DH → Prop} {h : DH} {xs : List D} (f : Nat → Option D) (hz : xs.length < sizeLine) (hg : grd h)
    (hs : ∀ i x (Y : D → DH → Prop) (N : DH → Prop), xs[i]? = some x → (∀ y, f i = some y → Y y h) → (f i = none → N h) → g x τ h fun τ2 h2 => tt τ2 h2 fun b h3 => Br b (te τ2 h3 Y) (N h3))
    (hC : ∀ i y, i < xs.length → f i = some y → Cn ((List.range i).filterMap f) y h) (hd : Fn ((List.range xs.length).filterMap f) h) : dgen g tt te grd τ Cn Ex Fn [] xs h := by
  refine dgen_inv xs (fun i acc h' => h' = h ∧ acc = (List.range i).filterMap f) ⟨rfl, rfl⟩ (fun _ _ _ z => by rw [z.1]; exact hg) ?_ ?_
  · rintro i x acc h' Y N hx ⟨rfl, rfl⟩ hY hN
    have hi : i < xs.length := (List.getElem?_eq_some_iff.mp hx).1
    refine hs i x Y N hx (fun y hy => hY y _ ⟨?_, .inr ⟨hC i y hi hy, rfl, ?_⟩⟩) fun hn => hN _ ⟨rfl, ?_⟩
    · exact Nat.lt_of_le_of_lt (List.length_filterMap_le _ _) (by rw [List.length_range]; omega)
    · rw [List.range_succ, List.filterMap_append]; simp [hy]
    · rw [List.range_succ, List.filterMap_append]; simp [hn]
  · rintro acc h' ⟨rfl, rfl⟩
    exact hd
theorem dall_of {g : RG} {tt : RT} {te : RE} {grd : DH → Prop} {τ : DSt} {Q : RK} {h : DH} {xs : List D} (f : Nat → Bool) (hz : xs.length < sizeLine) (hg : grd h)
    (hs : ∀ i x (Y : D → DH → Prop) (N : DH → Prop), xs[i]? = some x → Y (.bl (f i)) h → g x τ h fun τ2 h2 => tt τ2 h2 fun b h3 => Br b (te τ2 h3 Y) (N h3))
    (hd : Q (.bl ((List.range xs.length).all f)) h) : dall g tt te grd τ Q xs h := by
  unfold dall
  refine dgen_inv xs (fun i acc h' => h' = h ∧ acc.length = i ∧ i ≤ xs.length ∧ ∀ j, j < i → f j = true) ⟨rfl, rfl, Nat.zero_le _, fun j hj => absurd hj (Nat.not_lt_zero j)⟩ (fun _ _ _ z => by rw [z.1]; exact hg) ?_ ?_
  · rintro i x acc h' Y N hx ⟨rfl, hl, hi', hf⟩ hY hN
    have hi : i < xs.length := (List.getElem?_eq_some_iff.mp hx).1
    refine hs i x Y N hx (hY _ _ ⟨by omega, ?_⟩)
    cases e : f i with
    | true => exact .inr ⟨rfl, rfl, by simp [hl], hi, fun j hj => by
        by_cases z : j = i
        · rw [z]; exact e
        · exact hf j (by omega)⟩
    | false =>
      have z : (List.range xs.length).all f = false := by
        rw [List.all_eq_false]
        exact ⟨i, List.mem_range.mpr hi, by rw [e]; simp⟩
      rw [z] at hd
      exact .inl ⟨rfl, hd⟩
  · rintro acc h' ⟨rfl, hl, _, hf⟩
    have z : (List.range xs.length).all f = true := List.all_eq_true.mpr fun j hj => hf j (List.mem_range.mp hj)
    rw [z] at hd
    exact hd
theorem dany_of {g : RG} {tt : RT} {te : RE} {grd : DH → Prop} {τ : DSt} {Q : RK} {h : DH} {xs : List D} (f : Nat → Bool) (hz : xs.length < sizeLine) (hg : grd h)
    (hs : ∀ i x (Y : D → DH → Prop) (N : DH → Prop), xs[i]? = some x → Y (.bl (f i)) h → g x τ h fun τ2 h2 => tt τ2 h2 fun b h3 => Br b (te τ2 h3 Y) (N h3))
    (hd : Q (.bl ((List.range xs.length).any f)) h) : dany g tt te grd τ Q xs h := by
  unfold dany
  refine dgen_inv xs (fun i acc h' => h' = h ∧ acc.length = i ∧ i ≤ xs.length ∧ ∀ j, j < i → f j = false) ⟨rfl, rfl, Nat.zero_le _, fun j hj => absurd hj (Nat.not_lt_zero j)⟩ (fun _ _ _ z => by rw [z.1]; exact hg) ?_ ?_
  · rintro i x acc h' Y N hx ⟨rfl, hl, hi', hf⟩ hY hN
    have hi : i < xs.length := (List.getElem?_eq_some_iff.mp hx).1
    refine hs i x Y N hx (hY _ _ ⟨by omega, ?_⟩)
    cases e : f i with
    | false => exact .inr ⟨rfl, rfl, by simp [hl], hi, fun j hj => by
        by_cases z : j = i
        · rw [z]; exact e
        · exact hf j (by omega)⟩
    | true =>
      have z : (List.range xs.length).any f = true := List.any_eq_true.mpr ⟨i, List.mem_range.mpr hi, e⟩
      rw [z] at hd
      exact .inl ⟨rfl, hd⟩
  · rintro acc h' ⟨rfl, hl, _, hf⟩
    have z : (List.range xs.length).any f = false := List.any_eq_false.mpr fun j hj => by rw [hf j (List.mem_range.mp hj)]; simp
    rw [z] at hd
    exact hd
theorem dtup_map {g : RG} {tt : RT} {te : RE} {grd : DH → Prop} {τ : DSt} {Q : RK} {h : DH} {xs : List D} (f : Nat → Option D) (hz : xs.length < sizeLine) (hg : grd h)
    (hs : ∀ i x (Y : D → DH → Prop) (N : DH → Prop), xs[i]? = some x → (∀ y, f i = some y → Y y h) → (f i = none → N h) → g x τ h fun τ2 h2 => tt τ2 h2 fun b h3 => Br b (te τ2 h3 Y) (N h3))
    (hd : Q (.tup ((List.range xs.length).filterMap f)) h) : dtup g tt te grd τ Q xs h := dgen_map f hz hg hs (fun _ _ _ _ => trivial) hd
/-! ### tables stay -/
def Tbs (Ps : List Addr) (h : DH) : Prop := ∀ P ∈ Ps, h P = some .tb
theorem Tbs.up {Ps : List Addr} {h : DH} {p : Addr} {o : DO} (t : Tbs Ps h) (n : h p = none) : Tbs Ps (dupd h p o) := fun P hP => by
  rw [dupd_ne (ne_sn (t P hP) n)]; exact t P hP
theorem Tbs.wr {Ps : List Addr} {h : DH} {p : Addr} {o o' : DO} (t : Tbs Ps h) (e : h p = some o') (ne : o' ≠ .tb) : Tbs Ps (dupd h p o) := fun P hP => by
  rw [dupd_ne (fun z => ne (by have := t P hP; rw [z, e] at this; cases this; rfl))]; exact t P hP
theorem Tbs.sub {Ps : List Addr} {h h' : DH} (t : Tbs Ps h) (s : Sub h h') : Tbs Ps h' := fun P hP => s P _ (t P hP)
/-! ### zip -/
def zipD (xs ys : List D) : List D := List.zipWith (fun a b => .tup [a, b]) xs ys
theorem zipD_len (xs ys : List D) : (zipD xs ys).length = min xs.length ys.length := by simp [zipD]
theorem zipD_get {xs ys : List D} {i : Nat} {a b : D} (h1 : xs[i]? = some a) (h2 : ys[i]? = some b) : (zipD xs ys)[i]? = some (.tup [a, b]) := by
  unfold zipD
  rw [List.getElem?_zipWith, h1, h2]
section
variable {S : Sta} {ua : RA} {a b : Expr} {elts : List Expr} {kk : Nat} {p pos tpos : Pos}
@[reducible] def rZip (ua : RA) : RI := fun τ h R => ua τ h fun ds h1 => match ds with
  | [.tup xs, .tup ys] => R (zipD xs ys) (fun _ => True) h1
  | [.ref p, .ref q] => ∃ xs ys, h1 p = some (.lst xs) ∧ h1 q = some (.lst ys) ∧ R (zipD xs ys) (fun h' => h' p = some (.lst xs) ∧ h' q = some (.lst ys)) h1
  | _ => False
theorem di_zip (hg : glbI S.sc "zip" = true) (hm : S.mg "zip" = none) (ha : DA S [a, b] ua) (hs : ∀ env, starEach [a, b] env = (false, eval a env) :: starEach [b] env) (hpl : ∀ env, (backTo pos (starEach [b] env)).any (·.1) = false) :
    DI S (.Tuple elts kk tpos) (.Call (.Name "zip" p) [a, b] [] pos) (rZip ua) := by
  refine ⟨fun τ h R q r v σ H RV rs kt pins s I => ?_⟩
  refine (RZ.pi_zipA (X := S.cx r) (gl_of v hg) hm paTop (hs _) (hpl _)).run pins s σ H RV I ?_
  refine ha.run τ h _ q r v σ H _ rs fun ds vs h1 H1 e1 rs1 rp1 q1 => ?_
  dsimp only at q1
  split at q1
  · rename_i xs ys
    obtain ⟨w1, w2, rfl, r1, r2⟩ := reps2 rp1
    cases r1 with | tup hq1 rr1 =>
    cases r2 with | tup hq2 rr2 =>
    rename_i t1 vs1 t2 vs2
    have wk : Walks S.K H1 (RZ.ItzT S.K t1 t2) (zipD xs ys) (fun _ => True) := by
      refine ⟨fun i h2 H2 e2 rh g hi => ?_, fun h2 H2 e2 rh g => ?_, fun i h2 H2 z H3 e2 rh g hi hy => ?_⟩
      · rw [zipD_len, rr1.length, rr2.length] at hi
        exact ⟨vs1, vs2, vs1[i]'(by omega), vs2[i]'(by omega), sqT_ext e2 hq1, sqT_ext e2 hq2, List.getElem?_eq_getElem _, List.getElem?_eq_getElem _⟩
      · refine ⟨vs1, vs2, sqT_ext e2 hq1, sqT_ext e2 hq2, ?_⟩
        rw [zipD_len, rr1.length, rr2.length]; omega
      · obtain ⟨T, x, y, rfl, n, rfl, hx, hy⟩ := hy
        obtain ⟨d1, k1, k2⟩ := (rr1.ext e2).getV (hx vs1 (sqT_ext e2 hq1))
        obtain ⟨d2, k3, k4⟩ := (rr2.ext e2).getV (hy vs2 (sqT_ext e2 hq2))
        exact ⟨.new n, rh.new n, _, zipD_get k1 k3, pairRep n k2 k4⟩
    exact ⟨t1, t2, vs1, vs2, rfl, .inr ⟨hq1, hq2, kt _ _ _ _ _ e1 rs1 wk q1⟩⟩
  · rename_i t1 t2
    obtain ⟨xs, ys, hp1, hp2, q1⟩ := q1
    obtain ⟨w1, w2, rfl, r1, r2⟩ := reps2 rp1
    cases r1; cases r2
    obtain ⟨vs1, f1, rr1⟩ := RelH.lst rs1.ob hp1
    obtain ⟨vs2, f2, rr2⟩ := RelH.lst rs1.ob hp2
    have wk : Walks S.K H1 (Itz S.K t1 t2) (zipD xs ys) (fun h' => h' t1 = some (.lst xs) ∧ h' t2 = some (.lst ys)) := by
      refine ⟨fun i h2 H2 e2 rh g hi => ?_, fun h2 H2 e2 rh g => ?_, fun i h2 H2 z H3 e2 rh g hi hy => ?_⟩
      · obtain ⟨us1, g1, s1⟩ := RelH.lst rh g.1
        obtain ⟨us2, g2, s2⟩ := RelH.lst rh g.2
        rw [zipD_len, s1.length, s2.length] at hi
        exact ⟨us1, us2, us1[i]'(by omega), us2[i]'(by omega), SqL.of g1, SqL.of g2, List.getElem?_eq_getElem _, List.getElem?_eq_getElem _⟩
      · obtain ⟨us1, g1, s1⟩ := RelH.lst rh g.1
        obtain ⟨us2, g2, s2⟩ := RelH.lst rh g.2
        refine ⟨us1, us2, SqL.of g1, SqL.of g2, ?_⟩
        rw [zipD_len, s1.length, s2.length]; omega
      · obtain ⟨us1, g1, s1⟩ := RelH.lst rh g.1
        obtain ⟨us2, g2, s2⟩ := RelH.lst rh g.2
        obtain ⟨T, x, y, rfl, n, rfl, hx, hy⟩ := hy
        obtain ⟨d1, k1, k2⟩ := s1.getV (hx us1 (SqL.of g1))
        obtain ⟨d2, k3, k4⟩ := s2.getV (hy us2 (SqL.of g2))
        exact ⟨.new n, rh.new n, _, zipD_get k1 k3, pairRep n k2 k4⟩
    exact ⟨t1, t2, vs1, vs2, rfl, .inl ⟨SqL.of f1, SqL.of f2, kt _ _ _ _ _ e1 rs1 wk q1⟩⟩
  · exact q1.elim
/-! ### a comprehension stored in a name that is no plain local, or on another line -/
theorem ds_asgLc {elt : Expr} {gs : List Comprehension} {scope : Scope} {y : Str} {py cpos spos : Pos} {ws : List Nat} {te : RE} {g : RG} (he : DE S (.ListComp elt gs scope cpos) te) (hg : DG S (.Name y py) ws g)
    (hn : (S.sc.names.lookup y == some .local && py.line == cpos.line && !(scope.names.any fun (n, k) => n == y && (k == .local || k == .cell))) = false) : DS S (.Assign [.Name y py] (.ListComp elt gs scope cpos) spos) (rAsg te g) := by
  refine ⟨fun D τ h q r v σ H DV hl rs kt pins s I => ?_⟩
  have hs : swapsWithSole [.Name y py] (.ListComp elt gs scope cpos) spos.line r.env = pure false := by
    show (pure (r.env.blockKind == .function && r.env.kindOf y == some .local && py.line == cpos.line && !(scope.names.any fun (n, k) => n == y && (k == .local || k == .cell))) : Sem Bool) = pure false
    have e : (r.env.kindOf y == some .local) = (S.sc.names.lookup y == some .local) := by
      show (r.env.scope.names.lookup y == some .local) = _
      rw [v.sc]
    rw [e, Bool.and_assoc, Bool.and_assoc]
    rw [Bool.and_assoc] at hn
    rw [hn, Bool.and_false]
  refine (ps_asg (X := S.cx r) (peTop (e := .ListComp elt gs scope cpos)) (pgTop (tg := .Name y py)) hs rfl rfl).run pins s σ H DV I ?_
  refine he.run τ h _ q r v σ H _ rs fun d v1 h1 H1 e1 rs1 rp1 q1 => ?_
  exact hg.run d τ h1 _ q1 r v v1 σ H1 _ hl rs1 rp1 fun τ2 h2 σ2 H2 e2 rs2 l2 _ q2 => kt.nx _ _ _ _ (e1.trans e2) rs2 (l2.trans hl) q2
end
end DL
namespace DL
open PySem PySem.Spec PyProof.Rows L2
/-! ### slices -/
section
variable {α : Type}
theorem cut_from (xs : List α) (v : Int) (h : 0 ≤ v) : cut xs (some v) none = xs.drop v.toNat := by
  unfold cut
  have e : HT.sIx xs.length 0 (some v) = min v.toNat xs.length := by
    show (if v < 0 then _ else _) = _
    rw [if_neg (by omega)]
  rw [e, HT.sIx_none]
  by_cases z : v.toNat ≤ xs.length
  · rw [Nat.min_eq_left z, ← List.length_drop, List.take_length]
  · rw [Nat.min_eq_right (by omega), List.drop_length, List.drop_eq_nil_of_le (by omega)]; simp
theorem cut_to (xs : List α) (v : Int) (h : 0 ≤ v) : cut xs none (some v) = xs.take v.toNat := by
  unfold cut
  have e : HT.sIx xs.length xs.length (some v) = min v.toNat xs.length := by
    show (if v < 0 then _ else _) = _
    rw [if_neg (by omega)]
  rw [e, HT.sIx_none, List.drop_zero, Nat.sub_zero]
  by_cases z : v.toNat ≤ xs.length
  · rw [Nat.min_eq_left z]
  · rw [Nat.min_eq_right (by omega), List.take_length, List.take_of_length_le (by omega)]
theorem cut_map {β : Type} (f : α → β) (xs : List α) (lo hi : Option Int) : cut (xs.map f) lo hi = (cut xs lo hi).map f := by
  unfold cut
  rw [List.length_map, List.map_take, List.map_drop]
end
/-- pairs of neighbours -/
theorem zip_next_len (vs : List Int) : (zipD (vs.map D.int) ((vs.drop 1).map D.int)).length = vs.length - 1 := by rw [zipD_len]; simp
theorem zip_next_get {vs : List Int} {i : Nat} {x : D} (h : (zipD (vs.map D.int) ((vs.drop 1).map D.int))[i]? = some x) : x = D.tup [.int (vs.getD i 0), .int (vs.getD (i + 1) 0)] := by
  have hl := (List.getElem?_eq_some_iff.mp h).1
  rw [zip_next_len] at hl
  have h1 : (vs.map D.int)[i]? = some (.int (vs.getD i 0)) := by
    rw [List.getElem?_map, List.getElem?_eq_getElem (by omega)]
    simp [List.getD, List.getElem?_eq_getElem (show i < vs.length by omega)]
  have h2 : ((vs.drop 1).map D.int)[i]? = some (.int (vs.getD (i + 1) 0)) := by
    rw [List.getElem?_map, List.getElem?_drop, Nat.add_comm 1 i, List.getElem?_eq_getElem (by omega)]
    simp [List.getD, List.getElem?_eq_getElem (show i + 1 < vs.length by omega)]
  rw [zipD_get h1 h2] at h
  exact (Option.some.inj h).symm
end DL
namespace DL
open PySem PySem.Spec PyProof.Rows L2
/-- a comprehension by what holds of its elements; its parts leave the heap -/
theorem dlc_inv {g : RG} {tt : RT} {te : RE} {grd : DH → Prop} {p : Addr} {τ : DSt} {Q : RK} {h : DH} {xs : List D} (I : Nat → List D → Prop) (h0 : I 0 []) (hl : xs.length < sizeLine) (hI : ∀ i acc, I i acc → acc.length ≤ i) (hg : ∀ acc, grd (dupd h p (.lst acc)))
    (hs : ∀ i x acc (Y : RK) (N : DH → Prop), xs[i]? = some x → I i acc → (∀ y, I (i + 1) (acc ++ [y]) → Y y (dupd h p (.lst acc))) → (I (i + 1) acc → N (dupd h p (.lst acc))) →
      g x τ (dupd h p (.lst acc)) fun τ2 h2 => tt τ2 h2 fun b h3 => Br b (te τ2 h3 Y) (N h3))
    (hd : ∀ acc, I xs.length acc → Q (.ref p) (dupd h p (.lst acc))) : dlc g tt te grd p τ Q xs (dupd h p (.lst [])) := by
  have aux : ∀ (suf pre : List D) acc, xs = pre ++ suf → I pre.length acc → dlc g tt te grd p τ Q suf (dupd h p (.lst acc)) := by
    intro suf
    induction suf with
    | nil =>
      intro pre acc e i
      rw [List.append_nil] at e
      subst e
      exact ⟨hg _, hd _ i⟩
    | cons x suf ih =>
      intro pre acc e i
      refine ⟨hg _, ?_⟩
      refine hs pre.length x acc (fun y h4 => ∃ acc, h4 p = some (.lst acc) ∧ acc.length < sizeLine ∧ dlc g tt te grd p τ Q suf (dupd h4 p (.lst (acc ++ [y])))) _ (by rw [e]; simp) i (fun y i' => ?_) (fun i' => ih (pre ++ [x]) acc (by rw [e]; simp) (by simpa using i'))
      refine ⟨_, dupd_same, ?_, ?_⟩
      · have h1 := hI _ _ i
        have h2 : pre.length < xs.length := by rw [e]; simp
        omega
      · rw [dupd_dupd]
        exact ih (pre ++ [x]) _ (by rw [e]; simp) (by simpa using i')
  exact aux xs [] [] rfl h0
/-- one number for each element of a range -/
theorem dlc_nums {g : RG} {tt : RT} {te : RE} {grd : DH → Prop} {p : Addr} {τ : DSt} {Q : RK} {h : DH} {n : Nat} (P : Int → Prop) (hl : n < sizeLine) (hg : ∀ acc, grd (dupd h p (.lst acc)))
    (hs : ∀ (i : Nat) acc (Y : RK) (N : DH → Prop), i < n → (∀ z : Int, P z → Y (.int z) (dupd h p (.lst acc))) →
      g (.int (i : Int)) τ (dupd h p (.lst acc)) fun τ2 h2 => tt τ2 h2 fun b h3 => Br b (te τ2 h3 Y) (N h3))
    (hd : ∀ zs : List Int, zs.length = n → (∀ z ∈ zs, P z) → Q (.ref p) (dupd h p (.lst (zs.map D.int)))) : dlc g tt te grd p τ Q (rngD 0 n) (dupd h p (.lst [])) := by
  refine dlc_inv (fun i acc => ∃ zs : List Int, acc = zs.map D.int ∧ zs.length = i ∧ ∀ z ∈ zs, P z) ⟨[], rfl, rfl, fun z hz => by cases hz⟩ (by rw [rngD_len]; exact hl) (fun i acc ⟨zs, e, l, _⟩ => by rw [e, List.length_map]; omega) hg ?_ ?_
  · rintro i x acc Y N hx ⟨zs, rfl, l, hz⟩ hY hN
    have hlt : i < n := by have := (List.getElem?_eq_some_iff.mp hx).1; rw [rngD_len] at this; exact this
    rw [rngD_get hlt, Int.zero_add] at hx
    cases hx
    refine hs i _ Y N hlt fun z hp => hY _ ⟨zs ++ [z], by simp, by simp [l], ?_⟩
    intro y hy
    rcases List.mem_append.mp hy with hy | hy
    · exact hz y hy
    · rw [List.mem_singleton.mp hy]; exact hp
  · rintro acc ⟨zs, rfl, l, hz⟩
    rw [rngD_len] at l
    exact hd zs l hz
theorem cut_le {α : Type} (xs : List α) (lo hi : Option Int) : (cut xs lo hi).length ≤ xs.length := by
  unfold cut
  rw [List.length_take, List.length_drop]; omega
end DL
set_option maxHeartbeats 4000000
/-! sorted of a tuple of ints, tuple of a text, membership, sum, the greatest and the least. -/
namespace DLs
open PySem PySem.Spec PyProof.Rows SrtO L2
section
variable {prog : Program} {w : World} {A : Around} {E : Value → Shared → Prop} {s : Shared}
/-- what is collected from a tuple -/
theorem collect_tup {l : Addr} {vs : List Value} {Q : List Value → Shared → Prop} (hl : s.heap.IsTuple l vs.toArray)
    (h : Q vs { s with heap := (s.heap.push (seqObj "list" #[] 0)).update s.heap.objs.size (Obj.mapSeq (· ++ vs.toArray)) }) (hsz : vs.length ≤ sizeLine) :
    wpAny (model prog w) A (collect (.ref l)) Q E s := by
  obtain ⟨o, ho, hc, n, hd⟩ := id hl
  unfold collect
  refine wpAny_bind (wpAny_runValue (codeAny_builtin entry_proto_collect' ?_))
  show wpAny _ _ (do again (.builtin "list.__iadd__" ⟨[← newList [], .ref l], []⟩)) _ _ s
  refine wpAny_bind (wpAny_newList (wpAny_pure ⟨Code.quiet_builtin _ (by decide +kernel), codeAny_builtin entry_list_iadd' ?_⟩))
  show wpAny _ _ (Builtin.List.listExtendWith (.ref s.heap.objs.size) (.ref l) (.ref s.heap.objs.size)) _ _ { s with heap := s.heap.push (seqObj "list" #[] 0) }
  unfold Builtin.List.listExtendWith
  have ho' : (s.heap.push (seqObj "list" #[] 0)).get? l = some o := Heap.get?_push_of_some _ ho
  refine wpAny_bind (wpAny_typeOf (T := "tuple") ⟨o, ho', hc⟩ ?_)
  have ht : (Value.type "tuple" == Value.type "tuple") = true := by rfl
  rw [if_pos (by rw [ht]; simp)]
  refine wpAny_bind (listItems_at ho' hd ?_)
  refine wpAny_bind (listItems_at (xs := #[]) (n := 0) (Heap.get?_push_size _ rfl) rfl ?_)
  rw [if_neg (by simp)]
  refine wpAny_bind (listUpdate_at (xs := #[]) (n := 0) (Heap.get?_push_size _ rfl) rfl ?_ (Nat.zero_le _) (by show (#[] ++ vs.toArray).size ≤ sizeLine + 1; simp only [Array.size_append, List.size_toArray, List.length_nil]; omega))
  refine wpAny_pure ?_
  show wpAny (model prog w) A (do
      let o ← load s.heap.objs.size
      match o.data with
      | .seq xs _ => pure xs.toList
      | _ => unsupported "internal:collect") Q E { s with heap := (s.heap.push (seqObj "list" #[] 0)).update s.heap.objs.size (Obj.mapSeq (· ++ vs.toArray)) }
  refine wpAny_bind (wpAny_load (get?_update_seq (Heap.get?_push_size _ rfl) _) ?_)
  show wpAny _ _ (pure ((#[] : Array Value) ++ vs.toArray).toList) Q E _
  rw [show ((#[] : Array Value) ++ vs.toArray).toList = vs by simp]
  exact wpAny_pure h
theorem sorted_tup {l : Addr} {vs : List Value} {ltv : Value → Value → Bool} {Q : Value → Shared → Prop} (O : Swo ltv) (hl : s.heap.IsTuple l vs.toArray) (hz : vs.length ≤ sizeLine)
    (hS : 2 ≤ vs.length → ∀ (h₁ : Heap) (a : Addr), h₁.get? a = some (seqObj "list" vs.toArray 0) → (∀ b o, s.heap.get? b = some o → b ≠ a ∧ h₁.get? b = some o) → SortableO prog w A.in1.in1 { s with heap := h₁ } a vs ltv)
    (h : ∀ out : List Value, Srtd ltv out → Stb ltv out vs → Q (.ref (s.heap.objs.size + 1)) { s with heap := sortedAll s.heap vs out.toArray }) :
    wpAny (model prog w) A (call (.builtin "sorted") [.ref l]) Q E s := by
  refine Calls.call_function_entry kind_sorted plain_sorted entry_sorted (args_sorted1 _) ?_
  unfold Builtin.«sorted»
  refine wpAny_bind (m := checkCount "sorted" 1 1 _) (wpAny_pure ?_)
  refine wpAny_bind (collect_tup hl ?_ hz)
  refine wpAny_bind (wpAny_newList ?_ hz)
  have hsz : ((s.heap.push (seqObj "list" #[] 0)).update s.heap.objs.size (Obj.mapSeq (· ++ vs.toArray))).objs.size = s.heap.objs.size + 1 := by
    rw [Heap.size_update, size_push']
  have hoL : (((s.heap.push (seqObj "list" #[] 0)).update s.heap.objs.size (Obj.mapSeq (· ++ vs.toArray))).push (seqObj "list" vs.toArray 0)).get? (s.heap.objs.size + 1) = some (seqObj "list" vs.toArray 0) := by
    rw [← hsz]; exact Heap.get?_push_size _ rfl
  have keep : ∀ b o, s.heap.get? b = some o → b ≠ s.heap.objs.size + 1 ∧ (((s.heap.push (seqObj "list" #[] 0)).update s.heap.objs.size (Obj.mapSeq (· ++ vs.toArray))).push (seqObj "list" vs.toArray 0)).get? b = some o := fun b o q => by
    have hlt : b < s.heap.objs.size := Heap.lt_size q
    refine ⟨Nat.ne_of_lt (Nat.lt_succ_of_lt hlt), Heap.get?_push_of_some _ ?_⟩
    rw [Heap.get?_update_ne _ _ _ _ (Nat.ne_of_lt hlt)]
    exact Heap.get?_push_of_some _ q
  show wpAny _ _ _ _ _ { s with heap := ((s.heap.push (seqObj "list" #[] 0)).update s.heap.objs.size (Obj.mapSeq (· ++ vs.toArray))).push (seqObj "list" vs.toArray 0) }
  rw [hsz]
  refine wpAny_bind (wpAny_holding (wpAny_call_entry slot_list_sort ⟨_, hoL, rfl⟩ entry_list_sort (list_sort_ord O hoL hz (fun h2 => hS h2 _ _ hoL keep) fun out hs hb => ⟨_, rfl, ?_⟩) (args_list_sort _)))
  exact wpAny_pure ⟨_, rfl, h out hs hb⟩
end
section
variable {X : Cx}
theorem CallR.or {f : Value} {r r' : List V → Hp → VK → Prop} (a : CallR X f r) (b : CallR X f r') : CallR X f (fun vs H Q => r vs H Q ∨ r' vs H Q) := by
  intro pins s σ H vs us Q I rv h
  rcases h with h | h
  · exact a pins s σ H vs us Q I rv h
  · exact b pins s σ H vs us Q I rv h
def rSortedTI (K : PySem.W.Frag) : List V → Hp → VK → Prop := fun vs H Q => ∃ (a : Addr) (ns : List Int), vs = [V.ref a] ∧ SqT K H a (ns.map V.int) ∧
  ∀ (ns' : List Int) (p : Addr), ns'.Perm ns → ns'.Pairwise (· ≤ ·) → H p = none → Q (.ref p) (upd H p (.lst (ns'.map V.int)))
theorem cr_sortedTI : CallR X (.builtin "sorted") (rSortedTI X.K) := by
  intro pins s σ H vs us Q I r h
  obtain ⟨a, ns, rfl, hs, q⟩ := h
  obtain ⟨its, rv, hl, hz⟩ := I.tuple hs
  rw [Vals.ref1 r]
  have hi := rv.ints
  refine sorted_tup SrtO.swo_int hl (by rw [← rv.length]; exact hz) (fun h2 h₁ a' _ _ => SrtO.ints_sortable hi h2) fun out h1 h2 => ?_
  obtain ⟨k1, k2, k3⟩ := SrtO.ints_out hi h1 h2
  obtain ⟨ep, he'⟩ := PyProof.Rows.sortedAll_at s.heap its out.toArray
  have hlen : ((out.map SrtO.iv).map V.int).length ≤ sizeLine := by
    rw [List.length_map, k2.length_eq]
    rw [List.length_map] at hz
    exact hz
  exact ⟨.ref _, upd H (s.heap.objs.size + 1) (.lst ((out.map SrtO.iv).map V.int)), I.laid (t' := s.toks) (fun _ _ => PyProof.Rows.sortedAll_old) (Nat.le_succ _) ⟨hlen, out, ep, vals_of_ints k1, he'⟩, rfl, q _ _ k2 k3 (I.hok.fresh (Nat.le_succ _))⟩
/-- the signs of a text -/
def signsV (x : Str) : List V := (List.range x.cps.size).map fun i => V.str ⟨#[x.cps.getD i 0]⟩
theorem cr_tupleS (hc : X.calm = true) : CallR X (.type "tuple") (fun xs H Q => ∃ x : Str, xs = [.str x] ∧ x.cps.size ≤ sizeLine ∧ ∀ p, H p = none → Q (.ref p) (upd H p (.tup (signsV x)))) := by
  intro pins s σ H vs us Q I r h
  obtain ⟨x, rfl, hz, q⟩ := h
  cases r with | cons r1 r2 =>
  cases r2
  obtain ⟨t, rfl⟩ := r1
  refine call_tuple_str (I.ok.hd hc) x t (fun h' tk acc hk hi => ?_) hz
  have I1 : Inv X pins σ H { s with heap := h', toks := tk } := I.kept hk
  have hv : Vals (signsV x) acc.toList := by
    have e : acc.toList.length = x.cps.size := by rw [Array.length_toList]; exact hi.1
    unfold signsV
    rw [← e]
    refine vals_of_get acc.toList _ fun j u hj => ?_
    obtain ⟨c, t, h1, rfl⟩ := hi.2 j u (by rw [← hj, Array.getElem?_toList])
    exact ⟨t, by simp [Array.getD_eq_getD_getElem?, h1]⟩
  have hl : (signsV x).length ≤ sizeLine := by unfold signsV; rw [List.length_map, List.length_range]; exact hz
  exact ⟨.ref h'.objs.size, upd H h'.objs.size (.tup (signsV x)), I1.laid (t' := tk) (fun b o e => Heap.get?_push_of_some _ e) (Nat.le_refl _) (show ObjOk X.prog X.w _ _ _ (.tup (signsV x)) from ⟨hl, acc.toList, hv, by
    rw [Array.toArray_toList]; exact IsTup.new _ _⟩), rfl, q _ (I1.hok.fresh (Nat.le_refl _))⟩
end
end DLs
namespace DL
open PySem PySem.Spec PyProof.Rows L2
section
variable {S : Sta}
def signs (x : Str) : List D := (List.range x.cps.size).map fun i => D.str ⟨#[x.cps.getD i 0]⟩
theorem reps_signs {K : PySem.W.Frag} {H : Hp} (x : Str) : Reps K H (signs x) (DLs.signsV x) := by
  unfold signs DLs.signsV
  generalize List.range x.cps.size = l
  induction l with
  | nil => exact .nil
  | cons a r ih => exact .cons (.str _) ih
@[reducible] def rTupl : List D → DH → RK → Prop
  | [.tup ds], h, Q => Q (.tup ds) h
  | [.ref p], h, Q => ∃ ds, h p = some (.lst ds) ∧ Q (.tup ds) h
  | [.str x], h, Q => x.cps.size ≤ sizeLine ∧ Q (.tup (signs x)) h
  | _, _, _ => False
theorem cd_tupl : CallD S (.type "tuple") rTupl := by
  refine CallD.by fun rst vw => ⟨_, DLs.CallR.or (call_tuple_of (X := S.cx rst)) (DLs.cr_tupleS (X := S.cx rst) rfl), ?_⟩
  intro ds h Q q vs τ σ H QV pins s I rs rv k
  unfold rTupl at q
  split at q
  · obtain ⟨v, rfl, r⟩ := reps1 rv
    cases r with | tup hh rr => exact .inl ⟨_, _, rfl, .inr ⟨hh, k.val rs (.tup hh rr) q⟩⟩
  · obtain ⟨v, rfl, r⟩ := reps1 rv
    cases r
    obtain ⟨es, hp, q⟩ := q
    obtain ⟨vs, f, rr⟩ := RelH.lst rs.ob hp
    exact .inl ⟨_, _, rfl, .inl ⟨SqL.of f, fun l hl => k.newTup rs rr q hl⟩⟩
  · obtain ⟨v, rfl, r⟩ := reps1 rv
    cases r
    exact .inr ⟨_, rfl, q.1, fun l hl => k.newTup rs (reps_signs _) q.2 hl⟩
  · exact q.elim
theorem reps_ints {K : PySem.W.Frag} {H : Hp} (ns : List Int) : Reps K H (ns.map D.int) (ns.map V.int) := by
  induction ns with
  | nil => exact .nil
  | cons a r ih => exact .cons (.int _) ih
theorem Reps.toInts {K : PySem.W.Frag} {H : Hp} {ns : List Int} {vs : List V} (r : Reps K H (ns.map D.int) vs) : vs = ns.map V.int := r.ints
@[reducible] def rSorted : List D → DH → RK → Prop
  | [.tup ds], h, Q => ∃ ns : List Int, ds = ns.map D.int ∧ ∀ (ns' : List Int) (p : Addr), ns'.Perm ns → ns'.Pairwise (· ≤ ·) → h p = none → Q (.ref p) (dupd h p (.lst (ns'.map D.int)))
  | [.ref a], h, Q => ∃ ns : List Int, h a = some (.lst (ns.map D.int)) ∧ ∀ (ns' : List Int) (p : Addr), ns'.Perm ns → ns'.Pairwise (· ≤ ·) → h p = none → Q (.ref p) (dupd h p (.lst (ns'.map D.int)))
  | _, _, _ => False
theorem cd_sorted : CallD S (.builtin "sorted") rSorted := by
  refine CallD.by fun rst vw => ⟨_, DLs.CallR.or (cr_sortedI (X := S.cx rst)) (DLs.cr_sortedTI (X := S.cx rst)), ?_⟩
  intro ds h Q q vs τ σ H QV pins s I rs rv k
  unfold rSorted at q
  split at q
  · obtain ⟨ns, rfl, q⟩ := q
    obtain ⟨v, rfl, r⟩ := reps1 rv
    cases r with | tup hh rr =>
    rw [rr.ints] at hh
    exact .inr ⟨_, ns, rfl, hh, fun ns' p h1 h2 n => k.newLst rs (reps_ints ns') (fun p hp => q ns' p h1 h2 hp) n⟩
  · obtain ⟨v, rfl, r⟩ := reps1 rv
    cases r
    obtain ⟨ns, hp, q⟩ := q
    obtain ⟨vs, f, rr⟩ := RelH.lst rs.ob hp
    rw [rr.ints] at f
    exact .inl ⟨_, ns, rfl, SqL.of f, fun ns' p h1 h2 n => k.newLst rs (reps_ints ns') (fun p hp => q ns' p h1 h2 hp) n⟩
  · exact q.elim
@[reducible] def rSum : List D → DH → RK → Prop
  | [.ref a], h, Q => ∃ ns : List Int, h a = some (.lst (ns.map D.int)) ∧ Q (.int ns.sum) h
  | _, _, _ => False
theorem cd_sum : CallD S (.builtin "sum") rSum := by
  refine CallD.by fun rst vw => ⟨_, cr_sum (X := S.cx rst) rfl, ?_⟩
  intro ds h Q q vs τ σ H QV pins s I rs rv k
  unfold rSum at q
  split at q
  · obtain ⟨v, rfl, r⟩ := reps1 rv
    cases r
    obtain ⟨ns, hp, q⟩ := q
    obtain ⟨vs, f, rr⟩ := RelH.lst rs.ob hp
    rw [rr.ints] at f
    exact ⟨_, ns, rfl, SqL.of f, k.val rs (.int _) q⟩
  · exact q.elim
@[reducible] def rMax1 : List D → DH → RK → Prop
  | [.ref a], h, Q => ∃ ns : List Int, h a = some (.lst (ns.map D.int)) ∧ 0 < ns.length ∧ ∀ m, m ∈ ns → (∀ y, y ∈ ns → y ≤ m) → Q (.int m) h
  | _, _, _ => False
@[reducible] def rMin1 : List D → DH → RK → Prop
  | [.ref a], h, Q => ∃ ns : List Int, h a = some (.lst (ns.map D.int)) ∧ 0 < ns.length ∧ ∀ m, m ∈ ns → (∀ y, y ∈ ns → m ≤ y) → Q (.int m) h
  | _, _, _ => False
theorem cd_max1 : CallD S (.builtin "max") rMax1 := by
  refine CallD.by fun rst vw => ⟨_, cr_max (X := S.cx rst) rfl, ?_⟩
  intro ds h Q q vs τ σ H QV pins s I rs rv k
  unfold rMax1 at q
  split at q
  · obtain ⟨v, rfl, r⟩ := reps1 rv
    cases r
    obtain ⟨ns, hp, hl, q⟩ := q
    obtain ⟨vs, f, rr⟩ := RelH.lst rs.ob hp
    rw [rr.ints] at f
    exact ⟨_, ns, rfl, SqL.of f, hl, fun m h1 h2 => k.val rs (.int _) (q m h1 h2)⟩
  · exact q.elim
theorem cd_min1 : CallD S (.builtin "min") rMin1 := by
  refine CallD.by fun rst vw => ⟨_, cr_min (X := S.cx rst) rfl, ?_⟩
  intro ds h Q q vs τ σ H QV pins s I rs rv k
  unfold rMin1 at q
  split at q
  · obtain ⟨v, rfl, r⟩ := reps1 rv
    cases r
    obtain ⟨ns, hp, hl, q⟩ := q
    obtain ⟨vs, f, rr⟩ := RelH.lst rs.ob hp
    rw [rr.ints] at f
    exact ⟨_, ns, rfl, SqL.of f, hl, fun m h1 h2 => k.val rs (.int _) (q m h1 h2)⟩
  · exact q.elim
/-! ### in, not in -/
def flatD : D → Bool
  | .non => true
  | .bl _ => true
  | .int _ => true
  | .str _ => true
  | _ => false
theorem flat_of {K : PySem.W.Frag} {H : Hp} {d : D} {v : V} (r : Rep K H d v) : flatD d = true → flatV v = true := by
  cases r <;> simp [flatD, flatV]
theorem flats_of {K : PySem.W.Frag} {H : Hp} {ds : List D} {vs : List V} (r : Reps K H ds vs) : ds.all flatD = true → vs.all flatV = true := by
  induction ds generalizing vs with
  | nil => intro _; cases r; rfl
  | cons a t ih =>
    cases r with | cons r1 r2 =>
    intro h
    simp only [List.all_cons, Bool.and_eq_true] at h ⊢
    exact ⟨flat_of r1 h.1, ih r2 h.2⟩
theorem eqV_deq {K : PySem.W.Frag} {H : Hp} {d e : D} {v u : V} (r : Rep K H d v) (r' : Rep K H e u) (h : flatD d = true) (h' : flatD e = true) : eqV v u = deq d e := by
  cases r <;> simp [flatD] at h <;> cases r' <;> simp [flatD] at h' <;> simp [eqV, deq, toP, PyData.eqv]
theorem inV_deq {K : PySem.W.Frag} {H : Hp} {d : D} {v : V} {ds : List D} {vs : List V} (r : Rep K H d v) (rr : Reps K H ds vs) (h : flatD d = true) (hs : ds.all flatD = true) : inV v vs = ds.any fun y => deq y d := by
  unfold inV
  induction ds generalizing vs with
  | nil => cases rr; rfl
  | cons a t ih =>
    cases rr with | cons r1 r2 =>
    simp only [List.all_cons, Bool.and_eq_true] at hs
    rw [List.any_cons, List.any_cons, eqV_deq r1 r hs.1 h, ih r2 hs.2]
/-- j has i in it -/
def hasSub (j i : Str) : Bool := !(Builtin.Str.occurrences j i 0 j.length 1).isEmpty
@[reducible] def rMemS (neg : Bool) (j : Str) : D → DH → RK → Prop
  | .str i, h, Q => Q (.bl (ng neg (hasSub j i))) h
  | _, _, _ => False
@[reducible] def rMem (neg : Bool) (x : D) : D → DH → RK → Prop
  | .tup ds, h, Q => (flatD x = true ∧ ds.all flatD = true) ∧ Q (.bl (ng neg (ds.any fun y => deq y x))) h
  | .ref p, h, Q => ∃ ds, h p = some (.lst ds) ∧ (dat 50 x = true ∧ dats 50 ds = true) ∧ Q (.bl (ng neg (ds.any fun y => deq y x))) h
  | .str j, h, Q => rMemS neg j x h Q
  | _, _, _ => False
theorem toPs_any (ds : List D) (x : D) : ((toPs ds).any fun z => PyData.eqv z (toP x)) = ds.any fun y => deq y x := by
  induction ds with
  | nil => rfl
  | cons a r ih => simp only [toPs, List.any_cons, ih, deq]
theorem mem_conv {S : Sta} {neg : Bool} (dx dy : D) (h : DH) (Q : RK) (q : rMem neg dx dy h Q) (x y : V) (τ : DSt) (σ : L2.St) (H : Hp) (QV : VK) (rs : RelS S.K h τ σ H) (rx : Rep S.K H dx x) (ry : Rep S.K H dy y) (k : Kont S.K H τ σ Q QV) :
    (L2.rIn S.K neg x y H QV ∨ (∃ d ds, Dp S.K H x d ∧ Dp S.K H y (.list ds) ∧ SeqAt.shaped d = true ∧ SeqAt.shaped (.list ds) = true ∧ QV (.bl (if neg then !ds.any fun z => PyData.eqv z d else ds.any fun z => PyData.eqv z d)) H)) ∨
    (∃ i j, x = .str i ∧ y = .str j ∧ QV (.bl (if neg then !(!(Builtin.Str.occurrences j i 0 j.length 1).isEmpty) else !(Builtin.Str.occurrences j i 0 j.length 1).isEmpty)) H) := by
  unfold rMem at q
  split at q
  · rename_i ds
    obtain ⟨⟨f1, f2⟩, q⟩ := q
    cases ry with | tup hh rr =>
    refine .inl (.inl ⟨_, _, rfl, .inr hh, flat_of rx f1, flats_of rr f2, k.val rs (.bl _) ?_⟩)
    rw [inV_deq rx rr f1 f2, ng_if]; exact q
  · obtain ⟨ds, hp, ⟨a, b⟩, q⟩ := q
    cases ry
    obtain ⟨vs, f, r1⟩ := RelH.lst rs.ob hp
    obtain ⟨b1, b2⟩ := toPs_lay 50 ds b
    refine .inl (.inr ⟨toP dx, toPs ds, rx.dp a, .lst (SqL.of f) (r1.dp b), shaped_of (by decide) a, ?_, k.val rs (.bl _) (by rw [toPs_any, ng_if]; exact q)⟩)
    unfold SeqAt.shaped; simp only [PyData.canLay0, b1, Bool.true_and, decide_eq_true_eq]; show PyData.depthAll (toPs ds) + 1 ≤ 64; omega
  · rename_i j
    unfold rMemS at q
    split at q
    · cases ry; cases rx
      exact .inr ⟨_, _, rfl, rfl, k.val rs (.bl _) (by rw [ng_if]; exact q)⟩
    · exact q.elim
  · exact q.elim
abbrev rIn : D → D → DH → RK → Prop := rMem false
abbrev rNotin : D → D → DH → RK → Prop := rMem true
theorem od_in {S : Sta} : OpD S (compareOp .In) rIn := by
  refine OpD.by (rr := fun x y H Q => (L2.rIn S.K false x y H Q ∨ rInD S.K x y H Q) ∨ (∃ i j, x = .str i ∧ y = .str j ∧ Q (.bl ((!(Builtin.Str.occurrences j i 0 j.length 1).isEmpty))) H)) (fun rst vw => OpR.or (OpR.or op_in_seq (op_inD (X := S.cx rst) (by have := vw_units vw; show rst.A.units + 65 < cLine; omega))) op_in_str) fun dx dy h Q q x y τ σ H QV rs rx ry k => ?_
  rcases mem_conv dx dy h Q q x y τ σ H QV rs rx ry k with (a | ⟨d, ds, a1, a2, a3, a4, a5⟩) | ⟨i, j, a, b, c⟩
  · exact .inl (.inl a)
  · exact .inl (.inr ⟨d, ds, a1, a2, a3, a4, by simpa using a5⟩)
  · exact .inr ⟨i, j, a, b, by simpa using c⟩
theorem od_notin {S : Sta} : OpD S (compareOp .NotIn) rNotin := by
  refine OpD.by (rr := fun x y H Q => (L2.rIn S.K true x y H Q ∨ rNotInD S.K x y H Q) ∨ (∃ i j, x = .str i ∧ y = .str j ∧ Q (.bl (!(!(Builtin.Str.occurrences j i 0 j.length 1).isEmpty))) H)) (fun rst vw => OpR.or (OpR.or op_notIn_seq (op_notInD (X := S.cx rst) (by have := vw_units vw; show rst.A.units + 65 < cLine; omega))) op_notin_str) fun dx dy h Q q x y τ σ H QV rs rx ry k => ?_
  rcases mem_conv dx dy h Q q x y τ σ H QV rs rx ry k with (a | ⟨d, ds, a1, a2, a3, a4, a5⟩) | ⟨i, j, a, b, c⟩
  · exact .inl (.inl a)
  · exact .inl (.inr ⟨d, ds, a1, a2, a3, a4, by simpa using a5⟩)
  · exact .inr ⟨i, j, a, b, by simpa using c⟩
theorem any_deq_int (ns : List Int) (k : Int) : ((ns.map D.int).any fun y => deq y (.int k)) = decide (k ∈ ns) := by
  induction ns with
  | nil => rfl
  | cons a r ih =>
    rw [List.map_cons, List.any_cons, ih]
    simp only [deq, toP, PyData.eqv, List.mem_cons]
    by_cases e : a = k
    · subst e; simp
    · have e' : ¬ k = a := fun z => e z.symm
      simp [e, e']
theorem flat_ints (ns : List Int) : (ns.map D.int).all flatD = true := by
  rw [List.all_map]; exact List.all_eq_true.mpr fun _ _ => rfl
end
end DL
set_option maxHeartbeats 4000000
/-! ranges with a step; ranges made lists -/
namespace DLs
open PySem PySem.Spec PyProof.Rows L2
section
variable {X : Cx}
def rgC (i c : Int) (n : Nat) : List V := (List.range n).map fun (m : Nat) => V.int (i + (m : Int) * c)
theorem prg3 {a b c : Expr} {ta : TA} {p2 pos2 : Pos} (hg : Gl X "range") (hm : X.mg "range" = none) (ha : PA X [a, b, c] ta)
    (hs : starEach [a, b, c] X.env = (false, eval a X.env) :: starEach [b, c] X.env) (hpl : (backTo pos2 (starEach [b, c] X.env)).any (·.1) = false)
    (pins : List (Addr × Obj)) (s : Shared) (σ : L2.St) (H : Hp) (Q : Int → Int → Int → Nat → Hp → Prop) (I : Inv X pins σ H s) (h : ta σ H fun vs H1 => ∃ (i j c : Int) (n : Nat), vs = [.int i, .int j, .int c] ∧ RgC i j c n ∧ Q i j c n H1) :
    wpAny (model X.prog X.w) X.A (eval (.Call (.Name "range" p2) [a, b, c] [] pos2) X.env) (fun x s' => ∃ r i j c t u v n H', x = Value.ref r ∧ IsRange s'.heap r i j c t u v ∧ Inv X pins σ H' s' ∧ RgC i j c n ∧ Q i j c n H') X.xe s := by
  refine Call_ (ld_blt I hg hm boot_range (PyProof.Rows.callWith_type1 (thn (ha.run pos2 pins s σ H _ I h) fun us s1 ⟨vs, H1, I1, r1, q1⟩ => ?_) hs hpl))
  obtain ⟨i, j, k, n, e, ⟨c0, c1, c2, c3⟩, q⟩ := q1
  subst e
  cases r1 with | cons r rr =>
  cases rr with | cons r' rr =>
  cases rr with | cons r'' rr =>
  cases rr
  obtain ⟨t, rfl⟩ := r
  obtain ⟨t', rfl⟩ := r'
  obtain ⟨t'', rfl⟩ := r''
  refine call_range_3 c0 ?_ (.inl (PyProof.noPylong_small c1))
  exact ⟨_, i, j, k, t, t', t'', n, H1, rfl, IsRange.new .., I1.kept (t' := s1.toks) fun b o e => Heap.get?_push_of_some _ e, ⟨c0, c1, c2, c3⟩, q⟩
theorem pe_listR3 {a b c : Expr} {ta : TA} {p p2 pos pos2 : Pos} (hc : X.calm = true) (hgl : Gl X "list") (hml : X.mg "list" = none) (hg : Gl X "range") (hm : X.mg "range" = none) (ha : PA X [a, b, c] ta)
    (hs : starEach [a, b, c] X.env = (false, eval a X.env) :: starEach [b, c] X.env) (hpl : (backTo pos2 (starEach [b, c] X.env)).any (·.1) = false)
    (na : starEach [.Call (.Name "range" p2) [a, b, c] [] pos2] X.env = (false, eval (.Call (.Name "range" p2) [a, b, c] [] pos2) X.env) :: starEach [] X.env) :
    PE X (.Call (.Name "list" p) [.Call (.Name "range" p2) [a, b, c] [] pos2] [] pos) (fun σ H Q => ta σ H fun vs H1 => ∃ (i j c : Int) (n : Nat), vs = [.int i, .int j, .int c] ∧ RgC i j c n ∧ n ≤ 2 ^ 24 ∧ ∀ q, H1 q = none → Q (.ref q) (upd H1 q (.lst (rgC i c n)))) := by
  refine ⟨fun pins s σ H Q I h => ?_⟩
  refine Call_ (ld_blt I hgl hml boot_list (PyProof.Rows.callWith_type1 (args_cons (thn (prg3 hg hm ha hs hpl pins s σ H (fun i j c n H' => n ≤ 2 ^ 24 ∧ ∀ q, H' q = none → Q (.ref q) (upd H' q (.lst (rgC i c n)))) I h) fun x s1 ⟨r, i, j, c, t, u, v, n, H1, ex, hr, I1, ⟨c0, c1, c2, c3⟩, hn, q⟩ => args_nil ?_) na) na))
  subst ex
  refine call_list_range (n := n) (I1.ok.hd hc) hr c2 c3 hn fun h' tk acc c' hk e' hi => ?_
  have hl : (rgC i c n).length = n := by unfold rgC; rw [List.length_map, List.length_range]
  have hv : Vals (rgC i c n) acc.toList := by
    have e : acc.toList.length = n := by rw [Array.length_toList]; exact hi.1
    unfold rgC
    rw [← e]
    refine vals_of_get acc.toList _ fun j u hj => ?_
    obtain ⟨t, rfl⟩ := hi.2 j u (by rw [← hj, Array.getElem?_toList])
    exact ⟨t, rfl⟩
  refine ⟨.ref s1.heap.objs.size, upd H1 s1.heap.objs.size (.lst (rgC i c n)), I1.laid hk (Nat.le_refl _) (show ObjOk X.prog X.w _ _ _ (.lst (rgC i c n)) from ⟨?_, acc.toList, c', hv, ?_⟩), rfl, q _ (I1.hok.fresh (Nat.le_refl _))⟩
  · rw [hl, sizeLine_eq]; omega
  · rw [Array.toArray_toList]; exact e'
end
end DLs
namespace DL
open PySem PySem.Spec PyProof.Rows L2
theorem dupd_self {h : DH} {a : Addr} {o : DO} (e : h a = some o) : dupd h a o = h := by
  funext p
  by_cases z : p = a
  · rw [z, dupd_same, e]
  · rw [dupd_ne z]
/-- a comprehension by what holds, the heap may grow -/
theorem dlc_invH {g : RG} {tt : RT} {te : RE} {grd : DH → Prop} {p : Addr} {τ : DSt} {Q : RK} {h : DH} {xs : List D} (I : Nat → List D → DH → Prop) (h0 : I 0 [] h) (hl : xs.length < sizeLine) (hI : ∀ i acc h', I i acc h' → acc.length ≤ i ∧ grd h')
    (hs : ∀ i x acc h' (Y : RK) (N : DH → Prop), xs[i]? = some x → I i acc h' → (∀ y h4, h4 p = some (.lst acc) → I (i + 1) (acc ++ [y]) (dupd h4 p (.lst (acc ++ [y]))) → Y y h4) → (∀ h4, I (i + 1) acc h4 → N h4) →
      g x τ h' fun τ2 h2 => tt τ2 h2 fun b h3 => Br b (te τ2 h3 Y) (N h3))
    (hd : ∀ acc h', I xs.length acc h' → Q (.ref p) h') : dlc g tt te grd p τ Q xs h := by
  have aux : ∀ (suf pre : List D) acc h', xs = pre ++ suf → I pre.length acc h' → dlc g tt te grd p τ Q suf h' := by
    intro suf
    induction suf with
    | nil =>
      intro pre acc h' e i
      rw [List.append_nil] at e
      subst e
      exact ⟨(hI _ _ _ i).2, hd _ _ i⟩
    | cons x suf ih =>
      intro pre acc h' e i
      refine ⟨(hI _ _ _ i).2, ?_⟩
      refine hs pre.length x acc h' (fun y h4 => ∃ acc, h4 p = some (.lst acc) ∧ acc.length < sizeLine ∧ dlc g tt te grd p τ Q suf (dupd h4 p (.lst (acc ++ [y])))) _ (by rw [e]; simp) i (fun y h4 hp i' => ⟨_, hp, ?_, ih (pre ++ [x]) _ _ (by rw [e]; simp) (by simpa using i')⟩) (fun h4 i' => ih (pre ++ [x]) acc _ (by rw [e]; simp) (by simpa using i'))
      have h1 := (hI _ _ _ i).1
      have h2 : pre.length < xs.length := by rw [e]; simp
      omega
  exact aux xs [] [] h rfl h0
theorem sorted_ext : ∀ {l r : List Int}, l.Pairwise (· < ·) → r.Pairwise (· < ·) → (∀ k, k ∈ l ↔ k ∈ r) → l = r
  | [], [], _, _, _ => rfl
  | [], b :: r, _, _, h => absurd ((h b).mpr List.mem_cons_self) (by simp)
  | a :: l, [], _, _, h => absurd ((h a).mp List.mem_cons_self) (by simp)
  | a :: l, b :: r, hl, hr, h => by
    obtain ⟨hl1, hl2⟩ := List.pairwise_cons.mp hl
    obtain ⟨hr1, hr2⟩ := List.pairwise_cons.mp hr
    have e : a = b := by
      rcases List.mem_cons.mp ((h a).mp List.mem_cons_self) with e | e
      · exact e
      · rcases List.mem_cons.mp ((h b).mpr List.mem_cons_self) with e' | e'
        · exact e'.symm
        · have := hr1 a e; have := hl1 b e'; omega
    subst e
    refine congrArg _ (sorted_ext hl2 hr2 fun k => ⟨fun hk => ?_, fun hk => ?_⟩)
    · rcases List.mem_cons.mp ((h k).mp (List.mem_cons_of_mem _ hk)) with e | e
      · have := hl1 k hk; omega
      · exact e
    · rcases List.mem_cons.mp ((h k).mpr (List.mem_cons_of_mem _ hk)) with e | e
      · have := hr1 k hk; omega
      · exact e
theorem range_getD {α β : Type} (g : α → β) (d : α) (l : List α) : (List.range l.length).map (fun i => g (l.getD i d)) = l.map g := by
  apply List.ext_getElem
  · simp
  · intro i h1 h2
    simp at h1
    simp [List.getD, List.getElem?_eq_getElem h1]
theorem filterMap_if {α β : Type} (p : α → Bool) (g : α → β) (l : List α) : l.filterMap (fun a => if p a = true then some (g a) else none) = (l.filter p).map g := by
  induction l with
  | nil => rfl
  | cons a r ih =>
    cases e : p a <;> simp [List.filterMap_cons, List.filter_cons, e, ih]
theorem abs_S {S : RS} {E : DEnds} {τ : DSt} {h hh : DH} {b : Addr} (s : Sub h hh) (B : BoxAt hh b) (k : ∀ h', Sub h h' → BoxAt h' b → S E τ h') : S E τ hh := k hh s B
def rngC (lo c : Int) (n : Nat) : List D := (List.range n).map fun (i : Nat) => D.int (lo + (i : Int) * c)
theorem rngC_len (lo c : Int) (n : Nat) : (rngC lo c n).length = n := by simp [rngC]
theorem rngC_get {lo c : Int} {n i : Nat} (h : i < n) : (rngC lo c n)[i]? = some (.int (lo + (i : Int) * c)) := by simp [rngC, h]
/-- how many a range with a step has -/
def rngN (i j c : Int) : Nat := if c > 0 then (if i < j then ((j - i - 1) / c + 1).toNat else 0) else (if i > j then ((i - j - 1) / (-c) + 1).toNat else 0)
theorem RgC_of {i j c : Int} (h0 : c ≠ 0) (h1 : -1000000 < c) (h2 : c < 1000000) (h3 : -1000000000 ≤ i) (h4 : i < 1000000000) (h5 : -1000000000 ≤ j) (h6 : j < 1000000000) : RgC i j c (rngN i j c) := by
  have hr : Builtin.Range.rangeSize i j c = (rngN i j c : Int) ∧ (0 ≤ Builtin.Range.rangeSize i j c ∧ Builtin.Range.rangeSize i j c ≤ 2000000001) := by
    unfold Builtin.Range.rangeSize rngN
    by_cases hc : c > 0
    · rw [if_pos hc, if_pos hc]
      by_cases hij : i < j
      · rw [if_pos hij, if_pos hij]
        have a : 0 ≤ (j - i - 1) / c := Int.ediv_nonneg (by omega) (by omega)
        have b : (j - i - 1) / c ≤ j - i - 1 := Int.ediv_le_self _ (by omega)
        omega
      · rw [if_neg hij, if_neg hij]; omega
    · rw [if_neg hc, if_neg hc]
      by_cases hij : i > j
      · rw [if_pos hij, if_pos hij]
        have a : 0 ≤ (i - j - 1) / (-c) := Int.ediv_nonneg (by omega) (by omega)
        have b : (i - j - 1) / (-c) ≤ i - j - 1 := Int.ediv_le_self _ (by omega)
        omega
      · rw [if_neg hij, if_neg hij]; omega
  refine ⟨h0, by omega, ?_, hr.1⟩
  obtain ⟨-, g1, g2⟩ := hr
  unfold Builtin.Range.small
  generalize Builtin.Range.rangeSize i j c = z at *
  by_cases hc : c > 0
  · rw [if_pos hc]
    simp only [Builtin.Range.rangeFitsLong, Bool.and_eq_true, Bool.or_eq_true, decide_eq_true_eq, beq_iff_eq]
    omega
  · rw [if_neg hc]
    simp only [Builtin.Range.rangeFitsLong, Bool.and_eq_true, Bool.or_eq_true, decide_eq_true_eq, beq_iff_eq]
    omega
theorem walks_rangeC {K : PySem.W.Frag} {H : Hp} {lo c : Int} {n : Nat} : Walks K H (Itc lo c n) (rngC lo c n) (fun _ => True) := by
  refine ⟨fun i h2 H2 _ _ _ hi => by show i < n; rw [rngC_len] at hi; exact hi, fun h2 H2 _ _ _ => by show n ≤ _; rw [rngC_len]; exact Nat.le_refl _, fun i h2 H2 z H3 _ rh _ hi hy => ?_⟩
  obtain ⟨rfl, rfl⟩ := hy
  rw [rngC_len] at hi
  exact ⟨.refl _, rh, _, rngC_get hi, .int _⟩
section
variable {S : Sta} {pos p p2 pos2 : Pos} {a b c tg : Expr} {ua : RA}
theorem reps3 {K : PySem.W.Frag} {H : Hp} {a b c : D} {vs : List V} (r : Reps K H [a, b, c] vs) : ∃ x y z, vs = [x, y, z] ∧ Rep K H a x ∧ Rep K H b y ∧ Rep K H c z := by
  cases r with | cons r1 r =>
  cases r with | cons r2 r =>
  cases r with | cons r3 r =>
  cases r
  exact ⟨_, _, _, rfl, r1, r2, r3⟩
@[reducible] def rRng3 (ua : RA) : RI := fun τ h R => ua τ h fun ds h1 => match ds with
  | [.int i, .int j, .int k] => (k ≠ 0 ∧ -1000000 < k ∧ k < 1000000 ∧ -1000000000 ≤ i ∧ i < 1000000000 ∧ -1000000000 ≤ j ∧ j < 1000000000) ∧ R (rngC i k (rngN i j k)) (fun _ => True) h1
  | _ => False
theorem di_range3 (hg : glbI S.sc "range" = true) (hm : S.mg "range" = none) (ha : DA S [a, b, c] ua) (hs : ∀ env, starEach [a, b, c] env = (false, eval a env) :: starEach [b, c] env) (hpl : ∀ env, (backTo pos (starEach [b, c] env)).any (·.1) = false) :
    DI S tg (.Call (.Name "range" p) [a, b, c] [] pos) (rRng3 ua) := by
  refine ⟨fun τ h R q r v σ H RV rs kt pins s I => ?_⟩
  refine (pi_range3 (X := S.cx r) (gl_of v hg) hm (paTop (es := [a, b, c])) (hs _) (hpl _)).run pins s σ H RV I ?_
  refine ha.run τ h _ q r v σ H _ rs fun ds vs h1 H1 e1 rs1 rp1 q1 => ?_
  dsimp only at q1
  split at q1
  · rename_i i j k
    obtain ⟨w, w', w'', rfl, r1, r2, r3⟩ := reps3 rp1
    cases r1; cases r2; cases r3
    obtain ⟨⟨a0, a1, a2, a3, a4, a5, a6⟩, q1⟩ := q1
    exact ⟨i, j, k, _, rfl, RgC_of a0 a1 a2 a3 a4 a5 a6, kt _ _ _ _ _ e1 rs1 walks_rangeC q1⟩
  · exact q1.elim
@[reducible] def rLstR3 (ua : RA) : RE := fun τ h Q => ua τ h fun ds h1 => match ds with
  | [.int i, .int j, .int k] => (k ≠ 0 ∧ -1000000 < k ∧ k < 1000000 ∧ -1000000000 ≤ i ∧ i < 1000000000 ∧ -1000000000 ≤ j ∧ j < 1000000000) ∧ rngN i j k ≤ 2 ^ 24 ∧ ∀ r, h1 r = none → Q (.ref r) (dupd h1 r (.lst (rngC i k (rngN i j k))))
  | _ => False
theorem reps_rgC {K : PySem.W.Frag} {H : Hp} (i c : Int) (n : Nat) : Reps K H (rngC i c n) (DLs.rgC i c n) := by
  unfold rngC DLs.rgC
  generalize List.range n = l
  induction l with
  | nil => exact .nil
  | cons a r ih => exact .cons (.int _) ih
theorem de_listR3 (hgl : glbI S.sc "list" = true) (hml : S.mg "list" = none) (hg : glbI S.sc "range" = true) (hm : S.mg "range" = none) (ha : DA S [a, b, c] ua) (hs : ∀ env, starEach [a, b, c] env = (false, eval a env) :: starEach [b, c] env) (hpl : ∀ env, (backTo pos2 (starEach [b, c] env)).any (·.1) = false)
    (na : ∀ env, starEach [.Call (.Name "range" p2) [a, b, c] [] pos2] env = (false, eval (.Call (.Name "range" p2) [a, b, c] [] pos2) env) :: starEach [] env) :
    DE S (.Call (.Name "list" p) [.Call (.Name "range" p2) [a, b, c] [] pos2] [] pos) (rLstR3 ua) := by
  refine ⟨fun τ h Q q r v σ H QV rs k pins s I => ?_⟩
  refine (DLs.pe_listR3 (X := S.cx r) rfl (gl_of v hgl) hml (gl_of v hg) hm (paTop (es := [a, b, c])) (hs _) (hpl _) (na _)).run pins s σ H QV I ?_
  refine ha.run τ h _ q r v σ H _ rs fun ds vs h1 H1 e1 rs1 rp1 q1 => ?_
  dsimp only at q1
  split at q1
  · rename_i i j c
    obtain ⟨w, w', w'', rfl, r1, r2, r3⟩ := reps3 rp1
    cases r1; cases r2; cases r3
    obtain ⟨⟨a0, a1, a2, a3, a4, a5, a6⟩, hn, q1⟩ := q1
    exact ⟨i, j, c, _, rfl, RgC_of a0 a1 a2 a3 a4 a5 a6, hn, fun q hq => (k.at e1).newLst rs1 (reps_rgC i c _) q1 hq⟩
  · exact q1.elim
end
end DL
namespace DL
open PySem PySem.Spec PyProof.Rows L2
section
variable {S : Sta} {pos p1 p2 p3 : Pos} {e : Expr} {te : RE}
/-- xs[::-1], a list -/
@[reducible] def rRevL (t : RE) : RE := fun τ h Q => t τ h fun d h1 => match d with
  | .ref p => ∃ ds, h1 p = some (.lst ds) ∧ ∀ r, h1 r = none → Q (.ref r) (dupd h1 r (.lst ds.reverse))
  | _ => False
theorem Reps.rev {K : PySem.W.Frag} {H : Hp} {ds : List D} {vs : List V} (r : Reps K H ds vs) : Reps K H ds.reverse vs.reverse := by
  have app : ∀ {as bs : List D} {us ws : List V}, Reps K H as us → Reps K H bs ws → Reps K H (as ++ bs) (us ++ ws) := by
    intro as
    induction as with
    | nil => intro bs us ws h1 h2; cases h1; exact h2
    | cons a t ih =>
      intro bs us ws h1 h2
      cases h1 with | cons x y => exact .cons x (ih y h2)
  induction ds generalizing vs with
  | nil => cases r; exact .nil
  | cons a t ih =>
    cases r with | cons x y =>
    rw [List.reverse_cons, List.reverse_cons]
    exact app (ih y) (.cons x .nil)
theorem de_revL {k : Nat} (he : DE S e te) : DE S (.Subscript e (.Slice none none (some (.UnaryOp .USub (.Constant (.int 1) k p1) p2)) p3) pos) (rRevL te) := by
  refine ⟨fun τ h Q q r v σ H QV rs kt pins s I => ?_⟩
  refine (pe_revL (X := S.cx r) (peTop (e := e))).run pins s σ H QV I ?_
  refine he.run τ h _ q r v σ H _ rs fun d v1 h1 H1 e1 rs1 rp1 q1 => ?_
  cases rp1 <;> try exact q1.elim
  obtain ⟨ds, hp, q1⟩ := q1
  obtain ⟨vs, f, rr⟩ := RelH.lst rs1.ob hp
  exact ⟨_, _, rfl, SqL.of f, fun p n => (kt.at e1).newLst rs1 rr.rev q1 n⟩
end
end DL
/-! methods of texts -/
namespace DL
open PySem PySem.Spec PyProof.Rows L2
section
variable {S : Sta}
theorem reps_strs {K : PySem.W.Frag} {H : Hp} (ys : List Str) : Reps K H (ys.map D.str) (ys.map V.str) := by
  induction ys with
  | nil => exact .nil
  | cons a r ih => exact .cons (.str _) ih
@[reducible] def rJoin : D → List D → DH → RK → Prop
  | .str a, [.ref p], h, Q => ∃ ys : List Str, h p = some (.lst (ys.map D.str)) ∧ (ys.map (·.length)).sum + ys.length * a.length ≤ 16777216 ∧ Q (.str (Txt.join a ys)) h
  | .str a, [.tup ds], h, Q => ∃ ys : List Str, ds = ys.map D.str ∧ (ys.map (·.length)).sum + ys.length * a.length ≤ 16777216 ∧ Q (.str (Txt.join a ys)) h
  | _, _, _, _ => False
theorem md_join : MtD S "str" "str.join" rJoin := by
  refine fun rst vw => ⟨_, mt_join (X := S.cx rst), ?_⟩
  intro d as h Q q x vs τ σ H QV rs rx ra k
  unfold rJoin at q
  split at q
  · obtain ⟨ys, hp, hz, q⟩ := q
    cases rx
    obtain ⟨v, rfl, rv⟩ := reps1 ra
    cases rv
    obtain ⟨ws, f, rr⟩ := RelH.lst rs.ob hp
    rw [rr.strs] at f
    exact ⟨_, _, ys, rfl, rfl, .inl (SqL.of f), hz, k.val rs (.str _) q⟩
  · obtain ⟨ys, rfl, hz, q⟩ := q
    cases rx
    obtain ⟨v, rfl, rv⟩ := reps1 ra
    cases rv with | tup hh rr =>
    rw [rr.strs] at hh
    exact ⟨_, _, ys, rfl, rfl, .inr hh, hz, k.val rs (.str _) q⟩
  · exact q.elim
@[reducible] def rLower : D → List D → DH → RK → Prop
  | .str a, [], h, Q => a.length ≤ 5592405 ∧ Q (.str (Txt.lower a)) h
  | _, _, _, _ => False
theorem md_lower : MtD S "str" "str.lower" rLower := by
  refine fun rst vw => ⟨_, mt_lower (X := S.cx rst), ?_⟩
  intro d as h Q q x vs τ σ H QV rs rx ra k
  unfold rLower at q
  split at q
  · cases rx; cases ra
    exact ⟨_, rfl, rfl, q.1, k.val rs (.str _) q.2⟩
  · exact q.elim
@[reducible] def rUpper : D → List D → DH → RK → Prop
  | .str a, [], h, Q => a.length ≤ 5592405 ∧ Q (.str (Txt.upper a)) h
  | _, _, _, _ => False
theorem md_upper : MtD S "str" "str.upper" rUpper := by
  refine fun rst vw => ⟨_, mt_upper (X := S.cx rst), ?_⟩
  intro d as h Q q x vs τ σ H QV rs rx ra k
  unfold rUpper at q
  split at q
  · cases rx; cases ra
    exact ⟨_, rfl, rfl, q.1, k.val rs (.str _) q.2⟩
  · exact q.elim
@[reducible] def rStrip : D → List D → DH → RK → Prop
  | .str a, [], h, Q => a.length ≤ sizeLine ∧ Q (.str (Txt.strip a)) h
  | _, _, _, _ => False
theorem md_strip : MtD S "str" "str.strip" rStrip := by
  refine fun rst vw => ⟨_, mt_strip (X := S.cx rst), ?_⟩
  intro d as h Q q x vs τ σ H QV rs rx ra k
  unfold rStrip at q
  split at q
  · cases rx; cases ra
    exact ⟨_, rfl, rfl, q.1, k.val rs (.str _) q.2⟩
  · exact q.elim
@[reducible] def rIsalnum : D → List D → DH → RK → Prop
  | .str a, [], h, Q => Q (.bl (Txt.isalnum a)) h
  | _, _, _, _ => False
theorem md_isalnum : MtD S "str" "str.isalnum" rIsalnum := by
  refine fun rst vw => ⟨_, mt_isalnum (X := S.cx rst), ?_⟩
  intro d as h Q q x vs τ σ H QV rs rx ra k
  unfold rIsalnum at q
  split at q
  · cases rx; cases ra
    exact ⟨_, rfl, rfl, trivial, k.val rs (.bl _) q⟩
  · exact q.elim
@[reducible] def rFind : D → List D → DH → RK → Prop
  | .str a, [.str b], h, Q => Q (.int (Txt.find a b)) h
  | _, _, _, _ => False
theorem md_find : MtD S "str" "str.find" rFind := by
  refine fun rst vw => ⟨_, mt_find (X := S.cx rst), ?_⟩
  intro d as h Q q x vs τ σ H QV rs rx ra k
  unfold rFind at q
  split at q
  · cases rx
    obtain ⟨v, rfl, rv⟩ := reps1 ra
    cases rv
    exact ⟨_, _, rfl, rfl, k.val rs (.int _) q⟩
  · exact q.elim
@[reducible] def rPartition : D → List D → DH → RK → Prop
  | .str a, [.str b], h, Q => ((b.length == 0) = false ∧ a.length ≤ sizeLine) ∧ Q (.tup [.str (Txt.partition a b).1, .str (Txt.partition a b).2.1, .str (Txt.partition a b).2.2]) h
  | _, _, _, _ => False
theorem md_partition : MtD S "str" "str.partition" rPartition := by
  refine fun rst vw => ⟨_, mt_partition (X := S.cx rst), ?_⟩
  intro d as h Q q x vs τ σ H QV rs rx ra k
  unfold rPartition at q
  split at q
  · cases rx
    obtain ⟨v, rfl, rv⟩ := reps1 ra
    cases rv
    exact ⟨_, _, rfl, rfl, q.1.1, q.1.2, fun p n => k.newTup rs (.cons (.str _) (.cons (.str _) (.cons (.str _) .nil))) q.2 n⟩
  · exact q.elim
@[reducible] def rSplit : D → List D → DH → RK → Prop
  | .str a, [.str b], h, Q => ((b.length == 0) = false ∧ a.length + 2 ≤ sizeLine) ∧ ∀ p, h p = none → Q (.ref p) (dupd h p (.lst ((Txt.split a b).map D.str)))
  | _, _, _, _ => False
theorem md_split : MtD S "str" "str.split" rSplit := by
  refine fun rst vw => ⟨_, mt_split (X := S.cx rst), ?_⟩
  intro d as h Q q x vs τ σ H QV rs rx ra k
  unfold rSplit at q
  split at q
  · cases rx
    obtain ⟨v, rfl, rv⟩ := reps1 ra
    cases rv
    exact ⟨_, _, rfl, rfl, q.1.1, q.1.2, fun p n => k.newLst rs (reps_strs _) q.2 n⟩
  · exact q.elim
end
end DL
namespace DL
open PySem PySem.Spec PyProof.Rows L2
/-! ### less is known, slot by slot -/
inductive WkS : DSt → DSt → Prop
  | nil (r : DSt) : WkS r []
  | keep {x : Option D} {r r' : DSt} : WkS r r' → WkS (x :: r) (x :: r')
  | drop {x : Option D} {r r' : DSt} : WkS r r' → WkS (x :: r) (none :: r')
theorem WkS.keepE {x y : D} {r r' : DSt} (e : x = y) (w : WkS r r') : WkS (some x :: r) (some y :: r') := by subst e; exact .keep w
theorem WkS.lk : ∀ {τ τ' : DSt}, WkS τ τ' → ∀ i d, lk τ' i = some d → lk τ i = some d
  | _, _, .nil r, i, d, h => by simp [DL.lk] at h
  | _, _, .keep w, 0, d, h => h
  | _, _, .keep w, i + 1, d, h => w.lk i d h
  | _, _, .drop w, 0, d, h => by simp [DL.lk] at h
  | _, _, .drop w, i + 1, d, h => w.lk i d h
theorem WkS.refl : ∀ τ, WkS τ τ
  | [] => .nil _
  | _ :: r => .keep (WkS.refl r)
theorem WkS.weak {τ τ' : DSt} {h h' : DH} (w : WkS τ τ') (s : Sub h' h) : Weak τ τ' h h' := ⟨w.lk, s⟩
theorem Weak.rfl {τ : DSt} {h : DH} : Weak τ τ h h := ⟨fun _ _ e => e, .refl _⟩
theorem Sub.put2 {h h' : DH} {p : Addr} {o : DO} (s : Sub h h') (e : h' p = some o) : Sub (dupd h p o) h' := .put (fun a _ u q => s a u q) e
/-- some slots only -/
@[reducible] def keepD : DSt → List Bool → DSt
  | [], _ => []
  | _ :: r, [] => none :: keepD r []
  | x :: r, true :: m => x :: keepD r m
  | _ :: r, false :: m => none :: keepD r m
theorem keepD_wk : ∀ (τ : DSt) (m : List Bool), WkS τ (keepD τ m)
  | [], _ => .nil _
  | _ :: r, [] => .drop (keepD_wk r [])
  | _ :: r, true :: m => .keep (keepD_wk r m)
  | _ :: r, false :: m => .drop (keepD_wk r m)
/-- some slots are set -/
@[reducible] def setsD : DSt → List (Nat × D) → DSt
  | τ, [] => τ
  | τ, (i, d) :: r => setsD (sto τ i (some d)) r
section
variable {S : Sta} {pos : Pos} {tg iter c : Expr} {ttA : RT}
/-! ### for, what is known made less at each turn -/
def dforW (g : RG) (tb : RS) (grd : DH → Prop) (D : DEnds) : List DL.D → DSt → DH → Prop
  | [], τ, h => grd h ∧ D.nx τ h
  | x :: xs, τ, h => grd h ∧ g x τ h fun τ' h' => tb { nx := fun τ2 h2 => ∃ τ1 h1, Weak τ2 τ1 h2 h1 ∧ dforW g tb grd D xs τ1 h1, rt := D.rt, bk := D.nx, ct := fun τ2 h2 => ∃ τ1 h1, Weak τ2 τ1 h2 h1 ∧ dforW g tb grd D xs τ1 h1 } τ' h'
structure RForW (ms : List Bool) (ti : RI) (g : RG) (tb : RS) (D : DEnds) (τ : DSt) (h : DH) : Prop where
  ex : ∃ τ1 h1, Weak τ τ1 h h1 ∧ ti τ1 h1 fun ds grd h2 => dforW g tb grd D ds τ1 h2
theorem RForW.go {ms : List Bool} {ti : RI} {g : RG} {tb : RS} {D : DEnds} {τ : DSt} {h : DH} (q : ti (keepD τ ms) h fun ds grd h2 => dforW g tb grd D ds (keepD τ ms) h2) : RForW ms ti g tb D τ h :=
  ⟨_, _, (keepD_wk τ ms).weak (.refl _), q⟩
/-- .. the heap told anew -/
theorem RForW.to {ms : List Bool} {ti : RI} {g : RG} {tb : RS} {D : DEnds} {τ : DSt} {h : DH} (h1 : DH) (s : Sub h1 h) (q : ti (keepD τ ms) h1 fun ds grd h2 => dforW g tb grd D ds (keepD τ ms) h2) : RForW ms ti g tb D τ h :=
  ⟨_, h1, (keepD_wk τ ms).weak s, q⟩
theorem dforW_grd {g : RG} {tb : RS} {grd : DH → Prop} {D : DEnds} {xs : List DL.D} {τ : DSt} {h : DH} (q : dforW g tb grd D xs τ h) : grd h := by
  cases xs with
  | nil => exact q.1
  | cons _ _ => exact q.1
theorem ds_forW (ms : List Bool) {ti : RI} {g : RG} {t : RS} {ws : List Nat} {body : List Stmt} (hi : DI S tg iter ti) (hg : DG S tg ws g) (hb : DSs S body t) (hs : ∀ env x, foldedSetIterable iter env x = pure x) : DS S (.For tg iter body [] pos) (RForW ms ti g t) := by
  refine ⟨fun D τ h q r v σ H DV hl rs kt pins s I => ?_⟩
  obtain ⟨τw, hw, ww, q⟩ := q
  replace rs := rs.weak ww
  refine (ps_for (X := S.cx r) PassesOwn.never rfl (piTop (tg := tg) (iter := iter)) (pgTop (tg := tg)) (pssTop (st := body)) (hs _)).run pins s σ H DV I ?_
  refine hi.run τw hw _ q r v σ H _ rs fun ds grd J h1 H1 e1 rs1 wk q1 => ?_
  refine ⟨fun i m σ2 H2 => m = ds.length - i ∧ i ≤ ds.length ∧ σ2.length = S.N.length ∧ ∃ τ2 h2, Ext H1 H2 ∧ RelS S.K h2 τ2 σ2 H2 ∧ dforW g t grd D (ds.drop i) τ2 h2, ⟨ds.length, by simp, Nat.zero_le _, hl, τw, h1, .refl _, rs1, by simpa using q1⟩, ?_⟩
  rintro i m σ2 H2 ⟨rfl, hi', l2, τ2, h2, e2, rs2, q2⟩
  have hgr := dforW_grd q2
  by_cases hlt : i < ds.length
  · rw [List.drop_eq_getElem_cons hlt] at q2
    refine .inr ⟨wk.go i h2 H2 e2 rs2.ob hgr hlt, fun σ3 H3 => σ3.length = S.N.length ∧ ∃ τ3 h3, Ext H1 H3 ∧ RelS S.K h3 τ3 σ3 H3 ∧ dforW g t grd D (ds.drop (i + 1)) τ3 h3, ?_, ?_⟩
    · rintro σ3 H3 ⟨l3, τ3, h3, e3, rs3, q3⟩
      exact ⟨ds.length - (i + 1), by omega, rfl, hlt, l3, τ3, h3, e3, rs3, q3⟩
    · intro x H3 hy
      obtain ⟨e3, rh3, d, hd, rd⟩ := wk.yld i h2 H2 x H3 e2 rs2.ob hgr hlt hy
      rw [List.getElem?_eq_getElem hlt] at hd
      cases hd
      refine hg.run _ τ2 h2 _ q2.2 r v x σ2 H3 _ l2 (rs2.to e3 rh3) rd fun τ4 h4 σ4 H4 e4 rs4 l4 _ q4 => ?_
      refine hb.run _ τ4 h4 q4 r v σ4 H4 _ (l4.trans l2) rs4 ⟨?_, ?_, ?_, ?_⟩
      · exact fun τ5 h5 σ5 H5 e5 rs5 l5 ⟨τ6, h6, w6, q5⟩ => ⟨l5, τ6, h6, ((e2.trans e3).trans e4).trans e5, rs5.weak w6, q5⟩
      · exact fun d1 v1 h5 H5 e5 => kt.rt d1 v1 h5 H5 (e1.trans (((e2.trans e3).trans e4).trans e5))
      · exact fun τ5 h5 σ5 H5 e5 => kt.nx τ5 h5 σ5 H5 (e1.trans (((e2.trans e3).trans e4).trans e5))
      · exact fun τ5 h5 σ5 H5 e5 rs5 l5 ⟨τ6, h6, w6, q5⟩ => ⟨l5, τ6, h6, ((e2.trans e3).trans e4).trans e5, rs5.weak w6, q5⟩
  · obtain rfl : i = ds.length := by omega
    rw [List.drop_length] at q2
    exact .inl ⟨wk.stop h2 H2 e2 rs2.ob hgr, kt.nx _ _ _ _ (e1.trans e2) rs2 l2 q2.2⟩
structure RWhileW (ms : List Bool) (c : RT) (tb : RS) (D : DEnds) (τ : DSt) (h : DH) : Prop where
  ex : ∃ W : Nat → DSt → DH → Prop, (∃ m τ1 h1, Weak τ τ1 h h1 ∧ W m τ1 h1) ∧ ∀ m τ h, W m τ h →
    c τ h fun b h1 => Br b (tb { nx := fun τ' h' => ∃ m' τ2 h2, m' < m ∧ Weak τ' τ2 h' h2 ∧ W m' τ2 h2, rt := D.rt, ct := fun τ' h' => ∃ m' τ2 h2, m' < m ∧ Weak τ' τ2 h' h2 ∧ W m' τ2 h2, bk := D.nx } τ h1) (D.nx τ h1)
theorem ds_whileW (ms : List Bool) {t : RS} {body : List Stmt} (hc : DT S c ttA) (hb : DSs S body t) : DS S (.While c body [] pos) (RWhileW ms ttA t) := by
  refine ⟨fun D τ h q r v σ H DV hl rs kt pins s I => ?_⟩
  obtain ⟨W, ⟨m0, τ0, h0, ww, w0⟩, turn⟩ := q
  refine (ps_while (X := S.cx r) PassesOwn.never (ptTop (e := c)) (pssTop (st := body))).run pins s σ H DV I ?_
  refine ⟨fun m σ1 H1 => σ1.length = S.N.length ∧ ∃ τ1 h1, Ext H H1 ∧ RelS S.K h1 τ1 σ1 H1 ∧ W m τ1 h1, ⟨m0, hl, τ0, h0, .refl _, rs.weak ww, w0⟩, ?_⟩
  rintro m σ1 H1 ⟨l1, τ1, h1, e1, rs1, w1⟩
  refine hc.run τ1 h1 _ (turn m τ1 h1 w1) r v σ1 H1 _ rs1 fun b h2 H2 e2 rs2 q2 => ?_
  cases b with
  | true =>
    refine iteT ⟨fun σ' H' => ∃ m', m' < m ∧ (σ'.length = S.N.length ∧ ∃ τ3 h3, Ext H H' ∧ RelS S.K h3 τ3 σ' H' ∧ W m' τ3 h3), fun σ' H' z => z, ?_⟩
    refine hb.run _ τ1 h2 (q2.1 rfl) r v σ1 H2 _ l1 rs2 ⟨?_, ?_, ?_, ?_⟩
    · rintro τ3 h3 σ3 H3 e3 rs3 l3 ⟨m', τ4, h4, hm, w4, w3⟩
      exact ⟨m', hm, l3, τ4, h4, (e1.trans e2).trans e3, rs3.weak w4, w3⟩
    · exact fun d v1 h3 H3 e3 => kt.rt d v1 h3 H3 ((e1.trans e2).trans e3)
    · exact fun τ3 h3 σ3 H3 e3 => kt.nx τ3 h3 σ3 H3 ((e1.trans e2).trans e3)
    · rintro τ3 h3 σ3 H3 e3 rs3 l3 ⟨m', τ4, h4, hm, w4, w3⟩
      exact ⟨m', hm, l3, τ4, h4, (e1.trans e2).trans e3, rs3.weak w4, w3⟩
  | false => exact iteF (kt.nx _ _ _ _ (e1.trans e2) rs2 l1 (q2.2 rfl))
end
/-! ### loops by a state of one's own -/
/-- for: the state s stands in the slots and the heap as cv and he say -/
theorem dforW_st {σ : Type} {g : RG} {tb : RS} {grd : DH → Prop} {D : DEnds} {τ : DSt} {h : DH} {xs : List DL.D} (cv : σ → List (Nat × DL.D)) (he : σ → DH) (P : Nat → σ → Prop) (s0 : σ) (w0 : setsD τ (cv s0) = τ) (e0 : h = he s0) (p0 : P 0 s0) (hg : ∀ i s, P i s → grd (he s))
    (hs : ∀ i x s (N : DSt → DH → Prop), xs[i]? = some x → P i s → (∀ s' τ' h', P (i + 1) s' → Weak τ' (setsD τ (cv s')) h' (he s') → N τ' h') → g x (setsD τ (cv s)) (he s) fun τ' h' => tb { nx := N, rt := D.rt, bk := D.nx, ct := N } τ' h')
    (hd : ∀ s, P xs.length s → D.nx (setsD τ (cv s)) (he s)) : dforW g tb grd D xs τ h := by
  have aux : ∀ (suf pre : List DL.D) s, pre ++ suf = xs → P pre.length s → dforW g tb grd D suf (setsD τ (cv s)) (he s) := by
    intro suf
    induction suf with
    | nil =>
      intro pre s e i
      rw [List.append_nil] at e
      subst e
      exact ⟨hg _ _ i, hd _ i⟩
    | cons x suf ih =>
      intro pre s e i
      refine ⟨hg _ _ i, hs pre.length x s _ (by rw [← e]; simp) i fun s' τ' h' i' w => ⟨_, _, w, ?_⟩⟩
      exact ih (pre ++ [x]) s' (by rw [← e]; simp) (by simpa using i')
  have := aux xs [] s0 rfl p0
  rw [w0, ← e0] at this
  exact this
/-- .. over a list told by another -/
theorem dforW_map {σ α : Type} {g : RG} {tb : RS} {grd : DH → Prop} {D : DEnds} {τ : DSt} {h : DH} {f : α → DL.D} {as : List α} (cv : σ → List (Nat × DL.D)) (he : σ → DH) (P : Nat → σ → Prop) (s0 : σ) (w0 : setsD τ (cv s0) = τ) (e0 : h = he s0) (p0 : P 0 s0) (hg : ∀ i s, P i s → grd (he s))
    (hs : ∀ i a s (N : DSt → DH → Prop), as[i]? = some a → P i s → (∀ s' τ' h', P (i + 1) s' → Weak τ' (setsD τ (cv s')) h' (he s') → N τ' h') → g (f a) (setsD τ (cv s)) (he s) fun τ' h' => tb { nx := N, rt := D.rt, bk := D.nx, ct := N } τ' h')
    (hd : ∀ s, P as.length s → D.nx (setsD τ (cv s)) (he s)) : dforW g tb grd D (as.map f) τ h := by
  refine dforW_st cv he P s0 w0 e0 p0 hg (fun i x s N hx hp hN => ?_) (fun s hp => hd s (by simpa using hp))
  rw [List.getElem?_map] at hx
  cases ha : as[i]? with
  | none => rw [ha] at hx; cases hx
  | some a => rw [ha] at hx; cases hx; exact hs i a s N ha hp hN
/-- .. by a fold -/
theorem dforW_fold {σ α : Type} {g : RG} {tb : RS} {grd : DH → Prop} {D : DEnds} {τ : DSt} {h : DH} {f : α → DL.D} {as : List α} (cv : σ → List (Nat × DL.D)) (he : σ → DH) (step : σ → α → σ) (P : List α → σ → Prop) (s0 : σ) (w0 : setsD τ (cv s0) = τ) (e0 : h = he s0) (p0 : P [] s0) (hg : ∀ s, grd (he s))
    (hs : ∀ pre a post (N : DSt → DH → Prop), as = pre ++ a :: post → P pre (pre.foldl step s0) → (∀ τ' h', P (pre ++ [a]) (step (pre.foldl step s0) a) → Weak τ' (setsD τ (cv (step (pre.foldl step s0) a))) h' (he (step (pre.foldl step s0) a)) → N τ' h') → g (f a) (setsD τ (cv (pre.foldl step s0))) (he (pre.foldl step s0)) fun τ' h' => tb { nx := N, rt := D.rt, bk := D.nx, ct := N } τ' h')
    (hd : P as (as.foldl step s0) → D.nx (setsD τ (cv (as.foldl step s0))) (he (as.foldl step s0))) : dforW g tb grd D (as.map f) τ h := by
  have aux : ∀ (suf pre : List α), pre ++ suf = as → P pre (pre.foldl step s0) → dforW g tb grd D (suf.map f) (setsD τ (cv (pre.foldl step s0))) (he (pre.foldl step s0)) := by
    intro suf
    induction suf with
    | nil =>
      intro pre e i
      rw [List.append_nil] at e
      subst e
      exact ⟨hg _, hd i⟩
    | cons x suf ih =>
      intro pre e i
      refine ⟨hg _, hs pre x suf _ e.symm i fun τ' h' i' w => ⟨_, _, w, ?_⟩⟩
      have := ih (pre ++ [x]) (by rw [← e]; simp) (by rw [List.foldl_append]; exact i')
      rw [List.foldl_append] at this
      exact this
  have := aux as [] rfl p0
  simp only [List.foldl_nil] at this
  rw [w0, ← e0] at this
  exact this
/-- .. over a range from 0 -/
theorem dforW_rng {σ : Type} {g : RG} {tb : RS} {grd : DH → Prop} {D : DEnds} {τ : DSt} {h : DH} {lo : Int} {n : Nat} (cv : σ → List (Nat × DL.D)) (he : σ → DH) (P : Nat → σ → Prop) (s0 : σ) (w0 : setsD τ (cv s0) = τ) (e0 : h = he s0) (p0 : P 0 s0) (hg : ∀ i s, P i s → grd (he s))
    (hs : ∀ (i : Nat) s (N : DSt → DH → Prop), i < n → P i s → (∀ s' τ' h', P (i + 1) s' → Weak τ' (setsD τ (cv s')) h' (he s') → N τ' h') → g (.int (lo + (i : Int))) (setsD τ (cv s)) (he s) fun τ' h' => tb { nx := N, rt := D.rt, bk := D.nx, ct := N } τ' h')
    (hd : ∀ s, P n s → D.nx (setsD τ (cv s)) (he s)) : dforW g tb grd D (rngD lo n) τ h := by
  refine dforW_st cv he P s0 w0 e0 p0 hg (fun i x s N hx hp hN => ?_) (fun s hp => hd s (by rw [rngD_len] at hp; exact hp))
  have hlt : i < n := by have := (List.getElem?_eq_some_iff.mp hx).1; rw [rngD_len] at this; exact this
  rw [rngD_get hlt] at hx
  cases hx
  exact hs i s N hlt hp hN
theorem dforW_rng0 {σ : Type} {g : RG} {tb : RS} {grd : DH → Prop} {D : DEnds} {τ : DSt} {h : DH} {n : Nat} (cv : σ → List (Nat × DL.D)) (he : σ → DH) (P : Nat → σ → Prop) (s0 : σ) (w0 : setsD τ (cv s0) = τ) (e0 : h = he s0) (p0 : P 0 s0) (hg : ∀ i s, P i s → grd (he s))
    (hs : ∀ (i : Nat) s (N : DSt → DH → Prop), i < n → P i s → (∀ s' τ' h', P (i + 1) s' → Weak τ' (setsD τ (cv s')) h' (he s') → N τ' h') → g (.int (i : Int)) (setsD τ (cv s)) (he s) fun τ' h' => tb { nx := N, rt := D.rt, bk := D.nx, ct := N } τ' h')
    (hd : ∀ s, P n s → D.nx (setsD τ (cv s)) (he s)) : dforW g tb grd D (rngD 0 n) τ h :=
  dforW_rng cv he P s0 w0 e0 p0 hg (fun i s N hi hp hN => by rw [Int.zero_add]; exact hs i s N hi hp hN) hd
/-- .. nothing is carried: each turn by itself -/
theorem dforW_each {g : RG} {tb : RS} {grd : DH → Prop} {D : DEnds} {τ : DSt} {h : DH} {xs : List DL.D} (hg : grd h)
    (hs : ∀ (i : Nat) (x : DL.D) (N : DSt → DH → Prop), xs[i]? = some x → (∀ τ' h', Weak τ' τ h' h → N τ' h') → g x τ h fun τ' h' => tb { nx := N, rt := D.rt, bk := D.nx, ct := N } τ' h')
    (hd : D.nx τ h) : dforW g tb grd D xs τ h :=
  dforW_st (σ := Unit) (fun _ => []) (fun _ => h) (fun _ _ => True) () rfl rfl trivial (fun _ _ _ => hg) (fun i x _ N hx _ hN => hs i x N hx fun τ' h' w => hN () τ' h' trivial w) (fun _ _ => hd)
theorem dforW_eachM {α : Type} {g : RG} {tb : RS} {grd : DH → Prop} {D : DEnds} {τ : DSt} {h : DH} {f : α → DL.D} {as : List α} (hg : grd h)
    (hs : ∀ (i : Nat) (a : α) (N : DSt → DH → Prop), as[i]? = some a → (∀ τ' h', Weak τ' τ h' h → N τ' h') → g (f a) τ h fun τ' h' => tb { nx := N, rt := D.rt, bk := D.nx, ct := N } τ' h')
    (hd : D.nx τ h) : dforW g tb grd D (as.map f) τ h :=
  dforW_map (σ := Unit) (fun _ => []) (fun _ => h) (fun _ _ => True) () rfl rfl trivial (fun _ _ _ => hg) (fun i x _ N hx _ hN => hs i x N hx fun τ' h' w => hN () τ' h' trivial w) (fun _ _ => hd)
theorem dforW_eachR {g : RG} {tb : RS} {grd : DH → Prop} {D : DEnds} {τ : DSt} {h : DH} {lo : Int} {n : Nat} (hg : grd h)
    (hs : ∀ (i : Nat) (N : DSt → DH → Prop), i < n → (∀ τ' h', Weak τ' τ h' h → N τ' h') → g (.int (lo + (i : Int))) τ h fun τ' h' => tb { nx := N, rt := D.rt, bk := D.nx, ct := N } τ' h')
    (hd : D.nx τ h) : dforW g tb grd D (rngD lo n) τ h :=
  dforW_rng (σ := Unit) (fun _ => []) (fun _ => h) (fun _ _ => True) () rfl rfl trivial (fun _ _ _ => hg) (fun i _ N hx _ hN => hs i N hx fun τ' h' w => hN () τ' h' trivial w) (fun _ _ => hd)
theorem dforW_eachR0 {g : RG} {tb : RS} {grd : DH → Prop} {D : DEnds} {τ : DSt} {h : DH} {n : Nat} (hg : grd h)
    (hs : ∀ (i : Nat) (N : DSt → DH → Prop), i < n → (∀ τ' h', Weak τ' τ h' h → N τ' h') → g (.int (i : Int)) τ h fun τ' h' => tb { nx := N, rt := D.rt, bk := D.nx, ct := N } τ' h')
    (hd : D.nx τ h) : dforW g tb grd D (rngD 0 n) τ h :=
  dforW_rng0 (σ := Unit) (fun _ => []) (fun _ => h) (fun _ _ => True) () rfl rfl trivial (fun _ _ _ => hg) (fun i _ N hx _ hN => hs i N hx fun τ' h' w => hN () τ' h' trivial w) (fun _ _ => hd)
/-- while -/
theorem RWhileW.st {σ : Type} {ms : List Bool} {c : RT} {tb : RS} {D : DEnds} {τ : DSt} {h : DH} (h1 : DH) (hs1 : Sub h1 h) (cv : σ → List (Nat × DL.D)) (he : σ → DH) (P : Nat → σ → Prop) (m0 : Nat) (s0 : σ) (w0 : setsD (keepD τ ms) (cv s0) = keepD τ ms) (e0 : h1 = he s0) (p0 : P m0 s0)
    (hs : ∀ m s (N : DSt → DH → Prop), P m s → (∀ m' s' τ' h', m' < m → P m' s' → Weak τ' (setsD (keepD τ ms) (cv s')) h' (he s') → N τ' h') →
      c (setsD (keepD τ ms) (cv s)) (he s) fun b h1 => Br b (tb { nx := N, rt := D.rt, ct := N, bk := D.nx } (setsD (keepD τ ms) (cv s)) h1) (D.nx (setsD (keepD τ ms) (cv s)) h1)) : RWhileW ms c tb D τ h := by
  subst e0
  refine ⟨⟨fun m τ' h' => ∃ s, P m s ∧ τ' = setsD (keepD τ ms) (cv s) ∧ h' = he s, ⟨m0, _, _, ?_, s0, p0, rfl, rfl⟩, ?_⟩⟩
  · rw [w0]; exact (keepD_wk τ ms).weak hs1
  · rintro m _ _ ⟨s, p, rfl, rfl⟩
    exact hs m s _ p fun m' s' τ' h' hm p' w => ⟨m', _, _, hm, w, s', p', rfl, rfl⟩
end DL
namespace DLs
open PySem PySem.Spec PyProof.Rows L2 PySem.W
section
variable {X : Cx}
/-! ### the order of data -/
def rOrdD (K : PySem.W.Frag) (f : PyData → PyData → Bool) : R2 := fun x y H Q => ∃ d e, Dp K H x d ∧ Dp K H y e ∧ PySem.W.alike d e = true ∧ d ≠ .none ∧ d.depth ≤ 60 ∧ Q (.bl (f d e)) H
theorem op_ltD (hu : X.A.units + 64 < cLine) : OpR X (compareOp .Lt) (rOrdD X.K dataLt) := by
  intro pins s σ H x y v u Q I rx ry h
  obtain ⟨d, e, hd, he, ha, hn, hz, q⟩ := h
  obtain ⟨as, r1⟩ := Dp.reads I d x v hd rx
  obtain ⟨bs, r2⟩ := Dp.reads I e y u he ry
  exact lt_data r1 r2 ha hn (by omega) ⟨.bl _, H, I, rfl, q⟩
theorem op_gtD (hu : X.A.units + 64 < cLine) : OpR X (compareOp .Gt) (rOrdD X.K fun d e => dataLt e d) := by
  intro pins s σ H x y v u Q I rx ry h
  obtain ⟨d, e, hd, he, ha, hn, hz, q⟩ := h
  obtain ⟨as, r1⟩ := Dp.reads I d x v hd rx
  obtain ⟨bs, r2⟩ := Dp.reads I e y u he ry
  exact gt_data r1 r2 ha hn (by omega) ⟨.bl _, H, I, rfl, q⟩
theorem op_leD (hu : X.A.units + 64 < cLine) : OpR X (compareOp .LtE) (rOrdD X.K fun d e => !dataLt e d) := by
  intro pins s σ H x y v u Q I rx ry h
  obtain ⟨d, e, hd, he, ha, hn, hz, q⟩ := h
  obtain ⟨as, r1⟩ := Dp.reads I d x v hd rx
  obtain ⟨bs, r2⟩ := Dp.reads I e y u he ry
  exact le_data r1 r2 ha hn (by omega) ⟨.bl _, H, I, rfl, q⟩
theorem op_geD (hu : X.A.units + 64 < cLine) : OpR X (compareOp .GtE) (rOrdD X.K fun d e => !dataLt d e) := by
  intro pins s σ H x y v u Q I rx ry h
  obtain ⟨d, e, hd, he, ha, hn, hz, q⟩ := h
  obtain ⟨as, r1⟩ := Dp.reads I d x v hd rx
  obtain ⟨bs, r2⟩ := Dp.reads I e y u he ry
  exact ge_data r1 r2 ha hn (by omega) ⟨.bl _, H, I, rfl, q⟩
/-! ### sorted, min, max of data -/
theorem each_vals {β : Type} {fv : β → V} : ∀ {bs : List β} {us : List Value}, EachIs (fun u b => RelV (fv b) u) us bs → Vals (bs.map fv) us
  | _, _, .nil => .nil
  | _, _, .cons a r => .cons a (each_vals r)
theorem vals_each {β : Type} {fv : β → V} : ∀ {bs : List β} {us : List Value}, Vals (bs.map fv) us → EachIs (fun u b => RelV (fv b) u) us bs
  | [], _, .nil => .nil
  | _ :: _, _, .cons a r => .cons a (vals_each r)
theorem each_reads {pins : List (Addr × Obj)} {σ : L2.St} {H : Hp} {s : Shared} (I : Inv X pins σ H s) {β : Type} {fv : β → V} {enc : β → PyData} : ∀ {bs : List β} {us : List Value}, (∀ b ∈ bs, Dp X.K H (fv b) (enc b)) → EachIs (fun u b => RelV (fv b) u) us bs →
    EachIs (fun u b => ∃ as, Reads s.heap u (enc b) as) us bs
  | _, _, _, .nil => .nil
  | b :: bs, _, h, .cons a r => .cons (Dp.reads I _ _ _ (h b (by simp)) a) (each_reads I (fun c hc => h c (by simp [hc])) r)
theorem dpAll_of {K : PySem.W.Frag} {H : Hp} {β : Type} {fv : β → V} {enc : β → PyData} : ∀ {bs : List β}, (∀ b ∈ bs, Dp K H (fv b) (enc b)) → DpAll K H (bs.map fv) (bs.map enc)
  | [], _ => .nil
  | b :: bs, h => .cons (h b (by simp)) (dpAll_of fun c hc => h c (by simp [hc]))
structure SrtOk {β : Type} (K : PySem.W.Frag) (H : Hp) (bs : List β) (fv : β → V) (enc : β → PyData) : Prop where
  dp : ∀ b ∈ bs, Dp K H (fv b) (enc b)
  al : AllAlike (bs.map enc)
  so : Sortable (bs.map enc)
  dd : ∀ b ∈ bs, (enc b).depth ≤ 60
def rSortedG (K : PySem.W.Frag) : List V → Hp → VK → Prop := fun vs H Q => ∃ (a : Addr) (bs : List (V × DL.D)), vs = [V.ref a] ∧ SqL K H a (bs.map (·.1)) ∧ SrtOk K H bs (·.1) (fun b => DL.toP b.2) ∧
  ∀ p : Addr, H p = none → Q (.ref p) (upd H p (.lst ((bs.mergeSort (dataLe false fun b => DL.toP b.2)).map (·.1))))
theorem cr_sortedG (hu : X.A.units + 66 < cLine) : CallR X (.builtin "sorted") (rSortedG X.K) := by
  intro pins s σ H vs us Q I r h
  obtain ⟨a, bs, rfl, hs, ok, q⟩ := h
  rw [Vals.ref1 r]
  obtain ⟨its, rv, hl, hz⟩ := I.list hs
  have e := vals_each (β := V × DL.D) (fv := (·.1)) rv
  have er := each_reads I ok.dp e
  have hL : bs.length ≤ sizeLine := by simpa using hz
  have hub : ∀ b, b ∈ bs → X.A.units + 2 + (DL.toP b.2).depth < cLine := fun b hb => by have := ok.dd b hb; omega
  refine sorted_data (R := fun (u : Value) (b : V × DL.D) => RelV b.1 u) (enc := fun b => DL.toP b.2) hl.isList e er ok.al ok.so hL hub fun out hol ho => ?_
  obtain ⟨ep, he'⟩ := PyProof.Rows.sortedAll_at s.heap its out.toArray
  have hv := each_vals (β := V × DL.D) (fv := (·.1)) ho
  have hlen : ((bs.mergeSort (dataLe false fun b => DL.toP b.2)).map (·.1)).length ≤ sizeLine := by rw [List.length_map, List.length_mergeSort]; exact hL
  exact ⟨.ref _, upd H (s.heap.objs.size + 1) (.lst _), I.laid (t' := s.toks) (fun _ _ => PyProof.Rows.sortedAll_old) (Nat.le_succ _) ⟨hlen, out, ep, hv, he'⟩, rfl, q _ (I.hok.fresh (Nat.le_succ _))⟩
def rBestG (K : PySem.W.Frag) (f : PyData → List PyData → PyData) : List V → Hp → VK → Prop := fun vs H Q => ∃ (a : Addr) (us : List V) (x : PyData) (xs : List PyData), vs = [V.ref a] ∧ (SqL K H a us ∨ SqT K H a us) ∧ DpAll K H us (x :: xs) ∧ AlikeAll (x :: xs) ∧ PyData.depthAll (x :: xs) ≤ 60 ∧
  ∀ (i : Nat) (v : V) (d : PyData), us[i]? = some v → (x :: xs)[i]? = some d → d = f x xs → Q v H
theorem alikeAll_mem {x d e : PyData} {xs : List PyData} (h : AlikeAll (x :: xs)) (hd : d ∈ x :: xs) (he : e ∈ x :: xs) : PySem.W.alike d e = true := h.1 d hd e he
theorem foldl_best_mem {f : PyData → PyData → Bool} : ∀ (xs : List PyData) (x : PyData), xs.foldl (fun a y => if f y a then y else a) x ∈ x :: xs
  | [], x => by simp
  | y :: ys, x => by
    simp only [List.foldl_cons]
    split
    · exact List.mem_cons_of_mem _ (foldl_best_mem ys y)
    · rcases List.mem_cons.mp (foldl_best_mem (f := f) ys x) with h | h
      · rw [h]; simp
      · exact List.mem_cons_of_mem _ (List.mem_cons_of_mem _ h)
theorem minD_mem (x : PyData) (xs : List PyData) : minD x xs ∈ x :: xs := by unfold minD; exact foldl_best_mem xs x
theorem maxD_mem (x : PyData) (xs : List PyData) : maxD x xs ∈ x :: xs := by unfold maxD; exact foldl_best_mem (f := fun y a => dataLt a y) xs x
section
variable {s : Shared} {pins : List (Addr × Obj)} {σ : L2.St} {H : Hp}
/-- what the answer of min or max is -/
theorem best_fin {us : List V} {its : List Value} {x : PyData} {xs : List PyData} {as : List Addr} {m : PyData} {Q : VK} (I : Inv X pins σ H s) (rv : Vals us its) (hr : ReadsAll s.heap its (x :: xs) as) (ha : AlikeAll (x :: xs)) (hm : m ∈ x :: xs)
    (q : ∀ (i : Nat) (v : V) (d : PyData), us[i]? = some v → (x :: xs)[i]? = some d → d = m → Q v H)
    {i : Nat} {v : Value} {h' : Heap} {tk : Nat} {bs : List Addr} (hv : its[i]? = some v) (hb : Reads h' v m bs) (hk : ∀ b o, s.heap.get? b = some o → h'.get? b = some o) : EP X pins σ Q v { s with heap := h', toks := tk } := by
  have hlen : us.length = (x :: xs).length := by
    rw [rv.length]
    have := readsAll_len (vs := its.toArray) (by simpa using hr)
    simpa using this
  have hi : i < us.length := by rw [rv.length]; exact (List.getElem?_eq_some_iff.mp hv).1
  obtain ⟨u, hu, ru⟩ := rv.get (List.getElem?_eq_getElem hi)
  rw [hv] at hu
  cases hu
  obtain ⟨as2, r2, hi2, hmem, _⟩ := readsAll_at hr i v hv
  have hd : (x :: xs)[i]? = some ((x :: xs).getD i .none) := by
    rw [List.getD_eq_getElem?_getD, List.getElem?_eq_getElem hi2]; rfl
  have e := alike_unique _ _ v _ _ (ha.1 _ hmem _ hm) (reads_keeps hk r2) hb
  exact ⟨us[i], H, I.kept hk, ru, q i _ _ (List.getElem?_eq_getElem hi) hd e⟩
theorem cr_minG (hc : X.calm = true) (hu : X.A.units + 66 < cLine) : CallR X (.builtin "min") (rBestG X.K minD) := by
  intro pins s σ H vs us Q I r h
  obtain ⟨a, us', x, xs, rfl, hs, hd, ha, hz, q⟩ := h
  rw [Vals.ref1 r]
  rcases hs with hs | hs
  · obtain ⟨its, rv, hl, _⟩ := I.list hs
    obtain ⟨as, hr⟩ := Dp.readsAll I _ _ _ hd rv
    exact min_list_data (as := as) (x := x) (xs := xs) (I.ok.hd hc) hl.isList (by simpa using hr) ha (by omega) fun i v h' tk bs hv hb hk => best_fin I rv hr ha (minD_mem _ _) q (by simpa using hv) hb hk
  · obtain ⟨its, rv, hl, _⟩ := I.tuple hs
    obtain ⟨as, hr⟩ := Dp.readsAll I _ _ _ hd rv
    exact min_tuple_data (as := as) (x := x) (xs := xs) (I.ok.hd hc) hl (by simpa using hr) ha (by omega) fun i v h' tk bs hv hb hk => best_fin I rv hr ha (minD_mem _ _) q (by simpa using hv) hb hk
theorem cr_maxG (hc : X.calm = true) (hu : X.A.units + 66 < cLine) : CallR X (.builtin "max") (rBestG X.K maxD) := by
  intro pins s σ H vs us Q I r h
  obtain ⟨a, us', x, xs, rfl, hs, hd, ha, hz, q⟩ := h
  rw [Vals.ref1 r]
  rcases hs with hs | hs
  · obtain ⟨its, rv, hl, _⟩ := I.list hs
    obtain ⟨as, hr⟩ := Dp.readsAll I _ _ _ hd rv
    exact max_list_data (as := as) (x := x) (xs := xs) (I.ok.hd hc) hl.isList (by simpa using hr) ha (by omega) fun i v h' tk bs hv hb hk => best_fin I rv hr ha (maxD_mem _ _) q (by simpa using hv) hb hk
  · obtain ⟨its, rv, hl, _⟩ := I.tuple hs
    obtain ⟨as, hr⟩ := Dp.readsAll I _ _ _ hd rv
    exact max_tuple_data (as := as) (x := x) (xs := xs) (I.ok.hd hc) hl (by simpa using hr) ha (by omega) fun i v h' tk bs hv hb hk => best_fin I rv hr ha (maxD_mem _ _) q (by simpa using hv) hb hk
/-- default= -/
def rBestDf (K : PySem.W.Frag) (f : PyData → List PyData → PyData) : List V → List V → Hp → VK → Prop := fun vs zs H Q => ∃ (a : Addr) (us : List V) (xs : List PyData) (d : V), vs = [V.ref a] ∧ zs = [d] ∧ (SqL K H a us ∨ SqT K H a us) ∧ DpAll K H us xs ∧ AlikeAll xs ∧ PyData.depthAll xs ≤ 60 ∧
  (us = [] → Q d H) ∧ ∀ (y : PyData) (ys : List PyData), xs = y :: ys → ∀ (i : Nat) (v : V) (d : PyData), us[i]? = some v → xs[i]? = some d → d = f y ys → Q v H
theorem cr_maxDf (hc : X.calm = true) (hu : X.A.units + 66 < cLine) : CallRK X (.builtin "max") [Str.ofString "default"] (rBestDf X.K maxD) := by
  intro pins s σ H vs zs us ws Q I r rz h
  obtain ⟨a, us', xs, d, rfl, rfl, hs, hd, ha, hz, q0, q⟩ := h
  rw [Vals.ref1 r]
  obtain ⟨dv, rfl, rd⟩ := vals1 rz
  have hnil : xs = [] → us' = [] := fun e => by subst e; cases hd; rfl
  rcases hs with hs | hs
  · obtain ⟨its, rv, hl, _⟩ := I.list hs
    obtain ⟨as, hr⟩ := Dp.readsAll I _ _ _ hd rv
    exact max_list_default (as := as) (xs := xs) (I.ok.hd hc) hl.isList (by simpa using hr) ha (by omega) (fun e h' tk hk => ⟨d, H, I.kept hk, rd, q0 (hnil e)⟩) fun y ys i v h' tk bs e hv hb hk => by
      subst e; exact best_fin I rv hr ha (maxD_mem _ _) (q y ys rfl) (by simpa using hv) hb hk
  · obtain ⟨its, rv, hl, _⟩ := I.tuple hs
    obtain ⟨as, hr⟩ := Dp.readsAll I _ _ _ hd rv
    exact max_tuple_default (as := as) (xs := xs) (I.ok.hd hc) hl (by simpa using hr) ha (by omega) (fun e h' tk hk => ⟨d, H, I.kept hk, rd, q0 (hnil e)⟩) fun y ys i v h' tk bs e hv hb hk => by
      subst e; exact best_fin I rv hr ha (maxD_mem _ _) (q y ys rfl) (by simpa using hv) hb hk
end
end
end DLs
namespace DL
open PySem PySem.Spec PyProof.Rows L2 PySem.W
section
variable {S : Sta}
/-! ### < <= > >= of data -/
@[reducible] def rOrdX (fi : Int → Int → Bool) (f : PyData → PyData → Bool) : D → D → DH → RK → Prop
  | .int i, .int j, h, Q => Q (.bl (fi i j)) h
  | x, y, h, Q => (dat 50 x = true ∧ dat 50 y = true ∧ PySem.W.alike (toP x) (toP y) = true ∧ isNon x = false) ∧ Q (.bl (f (toP x) (toP y))) h
theorem toP_none {d : D} {n : Nat} (h : dat n d = true) (e : isNon d = false) : toP d ≠ .none := by
  cases d <;> simp_all [toP, dat, isNon]
theorem ordX_conv {fi : Int → Int → Bool} {f : PyData → PyData → Bool} {S : Sta} (dx dy : D) (h : DH) (Q : RK) (q : rOrdX fi f dx dy h Q) (x y : V) (τ : DSt) (σ : L2.St) (H : Hp) (QV : VK) (rs : RelS S.K h τ σ H) (rx : Rep S.K H dx x) (ry : Rep S.K H dy y) (k : Kont S.K H τ σ Q QV) :
    rI0 (fun i j => .bl (fi i j)) x y H QV ∨ DLs.rOrdD S.K f x y H QV := by
  unfold rOrdX at q
  split at q
  · cases rx; cases ry
    exact .inl ⟨_, _, rfl, rfl, k.val rs (.bl _) q⟩
  · obtain ⟨⟨a, b, c, e⟩, q⟩ := q
    exact .inr ⟨_, _, rx.dp a, ry.dp b, c, toP_none a e, by have := (toP_lay _ _ a).2; omega, k.val rs (.bl _) q⟩
@[reducible] def rLtX : D → D → DH → RK → Prop
  | .int i, .int j, h, Q => Q (.bl (decide (i < j))) h
  | x, y, h, Q => (dat 50 x = true ∧ dat 50 y = true ∧ PySem.W.alike (toP x) (toP y) = true ∧ isNon x = false) ∧ Q (.bl (dataLt (toP x) (toP y))) h
theorem od_ltX : OpD S (compareOp .Lt) rLtX := OpD.by (fun rst vw => OpR.or op_lt (DLs.op_ltD (X := S.cx rst) (by have := vw_units vw; show rst.A.units + 64 < cLine; omega))) fun dx dy h Q q => ordX_conv (fi := fun i j => decide (i < j)) (f := dataLt) dx dy h Q (by cases dx <;> cases dy <;> exact q)
@[reducible] def rGtX : D → D → DH → RK → Prop
  | .int i, .int j, h, Q => Q (.bl (decide (j < i))) h
  | x, y, h, Q => (dat 50 x = true ∧ dat 50 y = true ∧ PySem.W.alike (toP x) (toP y) = true ∧ isNon x = false) ∧ Q (.bl (dataLt (toP y) (toP x))) h
theorem od_gtX : OpD S (compareOp .Gt) rGtX := OpD.by (fun rst vw => OpR.or op_gt (DLs.op_gtD (X := S.cx rst) (by have := vw_units vw; show rst.A.units + 64 < cLine; omega))) fun dx dy h Q q => ordX_conv (fi := fun i j => decide (j < i)) (f := fun d e => dataLt e d) dx dy h Q (by cases dx <;> cases dy <;> exact q)
@[reducible] def rLeX : D → D → DH → RK → Prop
  | .int i, .int j, h, Q => Q (.bl (decide (i ≤ j))) h
  | x, y, h, Q => (dat 50 x = true ∧ dat 50 y = true ∧ PySem.W.alike (toP x) (toP y) = true ∧ isNon x = false) ∧ Q (.bl (!dataLt (toP y) (toP x))) h
theorem od_leX : OpD S (compareOp .LtE) rLeX := OpD.by (fun rst vw => OpR.or op_le (DLs.op_leD (X := S.cx rst) (by have := vw_units vw; show rst.A.units + 64 < cLine; omega))) fun dx dy h Q q => ordX_conv (fi := fun i j => decide (i ≤ j)) (f := fun d e => !dataLt e d) dx dy h Q (by cases dx <;> cases dy <;> exact q)
@[reducible] def rGeX : D → D → DH → RK → Prop
  | .int i, .int j, h, Q => Q (.bl (decide (j ≤ i))) h
  | x, y, h, Q => (dat 50 x = true ∧ dat 50 y = true ∧ PySem.W.alike (toP x) (toP y) = true ∧ isNon x = false) ∧ Q (.bl (!dataLt (toP x) (toP y))) h
theorem od_geX : OpD S (compareOp .GtE) rGeX := OpD.by (fun rst vw => OpR.or op_ge (DLs.op_geD (X := S.cx rst) (by have := vw_units vw; show rst.A.units + 64 < cLine; omega))) fun dx dy h Q q => ordX_conv (fi := fun i j => decide (j ≤ i)) (f := fun d e => !dataLt d e) dx dy h Q (by cases dx <;> cases dy <;> exact q)
/-! ### sorted -/
/-- the order of data -/
def dLe (a b : D) : Bool := dataLe false toP a b
structure SortL (a : Addr) (h : DH) (Q : RK) : Prop where
  ex : (∃ ns : List Int, h a = some (.lst (ns.map D.int)) ∧ ∀ (ns' : List Int) (p : Addr), ns'.Perm ns → ns'.Pairwise (· ≤ ·) → h p = none → Q (.ref p) (dupd h p (.lst (ns'.map D.int)))) ∨
    (∃ ds : List D, h a = some (.lst ds) ∧ (dats 50 ds = true ∧ AllAlike (toPs ds) ∧ Sortable (toPs ds)) ∧ ∀ p, h p = none → Q (.ref p) (dupd h p (.lst (ds.mergeSort dLe))))
theorem SortL.ints {a : Addr} {h : DH} {Q : RK} {ns : List Int} (ha : h a = some (.lst (ns.map D.int))) (q : ∀ (ns' : List Int) (p : Addr), ns'.Perm ns → ns'.Pairwise (· ≤ ·) → h p = none → Q (.ref p) (dupd h p (.lst (ns'.map D.int)))) : SortL a h Q := ⟨.inl ⟨ns, ha, q⟩⟩
theorem SortL.data {a : Addr} {h : DH} {Q : RK} {ds : List D} (ha : h a = some (.lst ds)) (hd : dats 50 ds = true) (h1 : AllAlike (toPs ds)) (h2 : Sortable (toPs ds)) (q : ∀ p, h p = none → Q (.ref p) (dupd h p (.lst (ds.mergeSort dLe)))) : SortL a h Q := ⟨.inr ⟨ds, ha, ⟨hd, h1, h2⟩, q⟩⟩
theorem toPs_map (ds : List D) : toPs ds = ds.map toP := by
  induction ds with
  | nil => rfl
  | cons d r ih => rw [toPs, ih]; rfl
theorem dats_mem {n : Nat} : ∀ {ds : List D}, dats n ds = true → ∀ d ∈ ds, dat n d = true
  | d :: ds, h, e, he => by
    simp only [dats, Bool.and_eq_true] at h
    rcases List.mem_cons.mp he with rfl | he
    · exact h.1
    · exact dats_mem h.2 e he
theorem Reps.zipD {K : PySem.W.Frag} {H : Hp} : ∀ {ds : List D} {vs : List V}, Reps K H ds vs → (vs.zip ds).map (·.1) = vs ∧ (vs.zip ds).map (·.2) = ds ∧ ∀ b ∈ vs.zip ds, Rep K H b.2 b.1
  | _, _, .nil => ⟨rfl, rfl, fun b hb => by cases hb⟩
  | _, _, .cons r t => by
    obtain ⟨a, b, c⟩ := Reps.zipD t
    refine ⟨by simp [a], by simp [b], fun x hx => ?_⟩
    rcases List.mem_cons.mp hx with rfl | hx
    · exact r
    · exact c x hx
theorem reps_of {K : PySem.W.Frag} {H : Hp} : ∀ {bs : List (V × D)}, (∀ b ∈ bs, Rep K H b.2 b.1) → Reps K H (bs.map (·.2)) (bs.map (·.1))
  | [], _ => .nil
  | b :: bs, h => .cons (h b (by simp)) (reps_of fun c hc => h c (by simp [hc]))
theorem sort_zip {K : PySem.W.Frag} {H : Hp} {ds : List D} {vs : List V} (r : Reps K H ds vs) : Reps K H (ds.mergeSort dLe) (((vs.zip ds).mergeSort (dataLe false fun b => toP b.2)).map (·.1)) := by
  obtain ⟨a, b, c⟩ := r.zipD
  have e : ds.mergeSort dLe = ((vs.zip ds).mergeSort (dataLe false fun b => toP b.2)).map (·.2) := by
    have h := List.map_mergeSort (r := dataLe false fun b : V × D => toP b.2) (s := dLe) (f := fun b : V × D => b.2) (l := vs.zip ds) (fun _ _ _ _ => rfl)
    rw [h, b]
  rw [e]
  exact reps_of fun x hx => c x (List.mem_mergeSort.mp hx)
@[reducible] def rSortedX : List D → DH → RK → Prop
  | [.tup ds], h, Q => ∃ ns : List Int, ds = ns.map D.int ∧ ∀ (ns' : List Int) (p : Addr), ns'.Perm ns → ns'.Pairwise (· ≤ ·) → h p = none → Q (.ref p) (dupd h p (.lst (ns'.map D.int)))
  | [.ref a], h, Q => SortL a h Q
  | _, _, _ => False
theorem cd_sortedX : CallD S (.builtin "sorted") rSortedX := by
  refine CallD.by fun rst vw => ⟨_, DLs.CallR.or (cr_sortedI (X := S.cx rst)) (DLs.CallR.or (DLs.cr_sortedTI (X := S.cx rst)) (DLs.cr_sortedG (X := S.cx rst) (by have := vw_units vw; show rst.A.units + 66 < cLine; omega))), ?_⟩
  intro ds h Q q vs τ σ H QV pins s I rs rv k
  unfold rSortedX at q
  split at q
  · obtain ⟨ns, rfl, q⟩ := q
    obtain ⟨v, rfl, r⟩ := reps1 rv
    cases r with | tup hh rr =>
    rw [rr.ints] at hh
    exact .inr (.inl ⟨_, ns, rfl, hh, fun ns' p h1 h2 n => k.newLst rs (reps_ints ns') (fun p hp => q ns' p h1 h2 hp) n⟩)
  · obtain ⟨v, rfl, r⟩ := reps1 rv
    cases r
    obtain ⟨⟨ns, hp, q⟩ | ⟨ds, hp, ⟨hd, h1, h2⟩, q⟩⟩ := q
    · obtain ⟨vs, f, rr⟩ := RelH.lst rs.ob hp
      rw [rr.ints] at f
      exact .inl ⟨_, ns, rfl, SqL.of f, fun ns' p h1 h2 n => k.newLst rs (reps_ints ns') (fun p hp => q ns' p h1 h2 hp) n⟩
    · obtain ⟨vs, f, rr⟩ := RelH.lst rs.ob hp
      obtain ⟨z1, z2, z3⟩ := rr.zipD
      have em : (vs.zip ds).map (fun b => toP b.2) = toPs ds := by rw [toPs_map, ← congrArg (List.map toP) z2, List.map_map]; rfl
      refine .inr (.inr ⟨_, vs.zip ds, rfl, by rw [z1]; exact SqL.of f, ⟨fun b hb => (z3 b hb).dp (dats_mem hd b.2 (by have := List.mem_map_of_mem (f := Prod.snd) hb; rwa [z2] at this)), by rw [em]; exact h1, by rw [em]; exact h2, fun b hb => ?_⟩, fun p n => k.newLst rs (sort_zip rr) q n⟩)
      have := (toP_lay _ _ (dats_mem hd b.2 (by have := List.mem_map_of_mem (f := Prod.snd) hb; rwa [z2] at this))).2
      omega
  · exact q.elim
/-! ### min, max -/
structure BestS (f : PyData → List PyData → PyData) (ds : List D) (h : DH) (Q : RK) : Prop where
  ex : ∃ x xs, ds = x :: xs ∧ (dats 50 ds = true ∧ AlikeAll (toPs ds)) ∧ ∀ d ∈ ds, toP d = f (toP x) (toPs xs) → Q d h
structure BestL (f : PyData → List PyData → PyData) (a : Addr) (h : DH) (Q : RK) : Prop where
  ex : ∃ ds, h a = some (.lst ds) ∧ BestS f ds h Q
@[reducible] def rBest (f : PyData → List PyData → PyData) : List D → DH → RK → Prop
  | [.tup ds], h, Q => BestS f ds h Q
  | [.ref a], h, Q => BestL f a h Q
  | _, _, _ => False
theorem cd_best {id : String} {f : PyData → List PyData → PyData} (hc : ∀ rst, Vw S rst → CallR (S.cx rst) (.builtin id) (DLs.rBestG S.K f)) : CallD S (.builtin id) (rBest f) := by
  refine CallD.by fun rst vw => ⟨_, hc rst vw, ?_⟩
  have go : ∀ {a : Addr} {ds : List D} {vs : List V} {h : DH} {H : Hp} {Q : RK} {QV : VK} {τ : DSt} {σ : L2.St}, (SqL S.K H a vs ∨ SqT S.K H a vs) → Reps S.K H ds vs → BestS f ds h Q → RelS S.K h τ σ H → Kont S.K H τ σ Q QV → DLs.rBestG S.K f [.ref a] H QV := fun {a ds vs h H Q QV τ σ} hs rr ⟨x, xs, e, ⟨hd, ha⟩, q⟩ rs k => by
    subst e
    have hz := (toPs_lay _ _ hd).2
    refine ⟨a, vs, toP x, toPs xs, rfl, hs, rr.dp hd, ha, by show PyData.depthAll (toPs (x :: xs)) ≤ 60; omega, fun i v d hv hdi e => ?_⟩
    obtain ⟨w, hw, rw'⟩ := rr.getV hv
    have : (toPs (x :: xs))[i]? = some (toP w) := by rw [toPs_map, List.getElem?_map, hw]; rfl
    have e2 : d = toP w := by
      have h2 : (toP x :: toPs xs)[i]? = some (toP w) := this
      rw [hdi] at h2; exact Option.some.inj h2
    exact k.val rs rw' (q w (List.mem_of_getElem? hw) (e2 ▸ e))
  intro ds h Q q vs τ σ H QV pins s I rs rv k
  unfold rBest at q
  split at q
  · obtain ⟨v, rfl, r⟩ := reps1 rv
    cases r with | tup hh rr => exact go (.inr hh) rr q rs k
  · obtain ⟨v, rfl, r⟩ := reps1 rv
    cases r
    obtain ⟨ds, hp, q⟩ := q
    obtain ⟨vs, f, rr⟩ := RelH.lst rs.ob hp
    exact go (.inl (SqL.of f)) rr q rs k
  · exact q.elim
theorem cd_minX : CallD S (.builtin "min") (rBest minD) := cd_best fun rst vw => DLs.cr_minG (X := S.cx rst) rfl (by have := vw_units vw; show rst.A.units + 66 < cLine; omega)
theorem cd_maxX : CallD S (.builtin "max") (rBest maxD) := cd_best fun rst vw => DLs.cr_maxG (X := S.cx rst) rfl (by have := vw_units vw; show rst.A.units + 66 < cLine; omega)
abbrev rMin1X := rBest minD
abbrev rMax1X := rBest maxD
theorem toPs_ints (ns : List Int) : toPs (ns.map D.int) = ns.map PyData.int := by rw [toPs_map, List.map_map]; rfl
theorem alike_ints' (ns : List Int) : AlikeAll (toPs (ns.map D.int)) := by
  rw [toPs_ints]
  constructor
  · intro x hx y hy
    obtain ⟨a, _, rfl⟩ := List.mem_map.mp hx
    obtain ⟨b, _, rfl⟩ := List.mem_map.mp hy
    rfl
  · intro x hx
    obtain ⟨a, _, rfl⟩ := List.mem_map.mp hx
    intro z; cases z
theorem foldl_min_le : ∀ (ns : List Int) (n : Int), (ns.foldl min n ≤ n ∧ ∀ y ∈ ns, ns.foldl min n ≤ y) ∧ ns.foldl min n ∈ n :: ns
  | [], n => by simp
  | a :: r, n => by
    obtain ⟨⟨h1, h2⟩, h3⟩ := foldl_min_le r (min n a)
    simp only [List.foldl_cons]
    refine ⟨⟨by omega, fun y hy => ?_⟩, ?_⟩
    · rcases List.mem_cons.mp hy with rfl | hy
      · omega
      · exact h2 y hy
    · rcases List.mem_cons.mp h3 with e | e
      · rw [e]
        by_cases z : n ≤ a
        · rw [Int.min_eq_left z]; simp
        · rw [Int.min_eq_right (by omega)]; simp
      · exact List.mem_cons_of_mem _ (List.mem_cons_of_mem _ e)
theorem foldl_max_le : ∀ (ns : List Int) (n : Int), (n ≤ ns.foldl max n ∧ ∀ y ∈ ns, y ≤ ns.foldl max n) ∧ ns.foldl max n ∈ n :: ns
  | [], n => by simp
  | a :: r, n => by
    obtain ⟨⟨h1, h2⟩, h3⟩ := foldl_max_le r (max n a)
    simp only [List.foldl_cons]
    refine ⟨⟨by omega, fun y hy => ?_⟩, ?_⟩
    · rcases List.mem_cons.mp hy with rfl | hy
      · omega
      · exact h2 y hy
    · rcases List.mem_cons.mp h3 with e | e
      · rw [e]
        by_cases z : a ≤ n
        · rw [Int.max_eq_left z]; simp
        · rw [Int.max_eq_right (by omega)]; simp
      · exact List.mem_cons_of_mem _ (List.mem_cons_of_mem _ e)
theorem BestS.minI {ns : List Int} {h : DH} {Q : RK} (h0 : ns ≠ []) (q : ∀ m, m ∈ ns → (∀ y, y ∈ ns → m ≤ y) → Q (.int m) h) : BestS minD (ns.map D.int) h Q := by
  cases ns with
  | nil => exact absurd rfl h0
  | cons n r =>
    refine ⟨_, _, rfl, ⟨dats_ints _ _, alike_ints' _⟩, fun d hd e => ?_⟩
    obtain ⟨m, hm, rfl⟩ := List.mem_map.mp hd
    rw [toPs_ints] at e
    have e1 : PyData.int m = .int (r.foldl min n) := e.trans (minD_ints n r)
    have e2 := PyData.int.inj e1
    obtain ⟨⟨k1, k2⟩, k3⟩ := foldl_min_le r n
    refine q m hm fun y hy => ?_
    rcases List.mem_cons.mp hy with rfl | hy
    · omega
    · rw [e2]; exact k2 y hy
theorem BestS.maxI {ns : List Int} {h : DH} {Q : RK} (h0 : ns ≠ []) (q : ∀ m, m ∈ ns → (∀ y, y ∈ ns → y ≤ m) → Q (.int m) h) : BestS maxD (ns.map D.int) h Q := by
  cases ns with
  | nil => exact absurd rfl h0
  | cons n r =>
    refine ⟨_, _, rfl, ⟨dats_ints _ _, alike_ints' _⟩, fun d hd e => ?_⟩
    obtain ⟨m, hm, rfl⟩ := List.mem_map.mp hd
    rw [toPs_ints] at e
    have e1 : PyData.int m = .int (r.foldl max n) := e.trans (maxD_ints n r)
    have e2 := PyData.int.inj e1
    obtain ⟨⟨k1, k2⟩, k3⟩ := foldl_max_le r n
    refine q m hm fun y hy => ?_
    rcases List.mem_cons.mp hy with rfl | hy
    · omega
    · rw [e2]; exact k2 y hy
theorem BestL.minI {a : Addr} {ns : List Int} {h : DH} {Q : RK} (ha : h a = some (.lst (ns.map D.int))) (h0 : ns ≠ []) (q : ∀ m, m ∈ ns → (∀ y, y ∈ ns → m ≤ y) → Q (.int m) h) : BestL minD a h Q := ⟨_, ha, .minI h0 q⟩
theorem BestL.maxI {a : Addr} {ns : List Int} {h : DH} {Q : RK} (ha : h a = some (.lst (ns.map D.int))) (h0 : ns ≠ []) (q : ∀ m, m ∈ ns → (∀ y, y ∈ ns → y ≤ m) → Q (.int m) h) : BestL maxD a h Q := ⟨_, ha, .maxI h0 q⟩
end
end DL
namespace DLs
open PySem PySem.Spec PyProof.Rows L2 PySem.W
section
variable {X : Cx}
/-- text * int -/
def rMulS : R2 := fun x y H Q => ∃ (a : Str) (k : Int), x = .str a ∧ y = .int k ∧ MulOk a k ∧ Q (.str (Txt.mul a k)) H
theorem op_mulS : OpR X (binaryOp .Mult) rMulS := by
  intro pins s σ H x y v u Q I rx ry h
  obtain ⟨a, k, rfl, rfl, ok, q⟩ := h
  obtain ⟨t, rfl⟩ := rx
  obtain ⟨t2, rfl⟩ := ry
  exact SB.mul ok fun t' k' => ⟨.str _, H, I.tok _, ⟨_, rfl⟩, q⟩
theorem tuple_mul1 (l : Addr) (items : Array Value) (n : Nat) (dd : Option Addr) (sl : Array (Option Value)) (u : Tok) :
    Meets (Builtin.«tuple.__mul__» ⟨[.ref l, .int 1 u], []⟩) (fun _ R s => s.heap.get? l = some { cls := .type "tuple", dict := dd, data := .seq items n, slots := sl } ∧
      R (.ok (.ret (Value.ref l))) s) :=
  .of_wp fun prog w A R s h => by
    obtain ⟨hp, g, d, tk, os⟩ := s
    obtain ⟨hl, h⟩ := h
    have f1 := AutoSeq1.idx_int
    have c0 : (decide ((1 : Int) < -(2 ^ 63)) || decide ((1 : Int) ≥ 2 ^ 63)) = false := by decide
    have c1 : (items.isEmpty || (1 : Int) == 1) = true := by simp
    wp_walk using wpAny_loadPart' hl
    repeat (first
      | (refine wpAny_ite_false (decide_eq_false (by rw [c0]; exact Bool.false_ne_true)) ?_; wp_walk using wpAny_loadPart' hl)
      | (refine wpAny_ite_true (decide_eq_true c1) ?_; wp_walk using wpAny_loadPart' hl))
    exact ⟨_, rfl, h⟩
theorem tuple_mul0 (l : Addr) (items : Array Value) (n : Nat) (dd : Option Addr) (sl : Array (Option Value)) (x : Int) (u : Tok) (h0 : x ≤ 0) (c0 : (decide (x < -(2 ^ 63)) || decide (x ≥ 2 ^ 63)) = false) (hn : items.isEmpty = false) :
    Meets (Builtin.«tuple.__mul__» ⟨[.ref l, .int x u], []⟩) (fun _ R s => s.heap.get? l = some { cls := .type "tuple", dict := dd, data := .seq items n, slots := sl } ∧
      R (.ok (.ret (Value.ref s.heap.objs.size))) { s with heap := s.heap.push { cls := Value.type "tuple", data := Data.seq #[] }, toks := s.toks }) :=
  .of_wp fun prog w A R s h => by
    obtain ⟨hp, g, d, tk, os⟩ := s
    obtain ⟨hl, h⟩ := h
    have f1 := AutoSeq1.idx_int
    have c1 : (items.isEmpty || x == 1) = false := by rw [hn, Bool.false_or]; exact beq_eq_false_iff_ne.mpr (by omega)
    have c2 : (decide (x ≤ 0) || items.isEmpty) = true := by simp [h0]
    wp_walk using wpAny_loadPart' hl
    repeat (first
      | (refine wpAny_ite_false (decide_eq_false (by rw [c0]; exact Bool.false_ne_true)) ?_; wp_walk using wpAny_loadPart' hl)
      | (refine wpAny_ite_false (decide_eq_false (by rw [c1]; exact Bool.false_ne_true)) ?_; wp_walk using wpAny_loadPart' hl)
      | (refine wpAny_ite_true (decide_eq_true c2) ?_; wp_walk using wpAny_loadPart' hl))
    exact ⟨_, rfl, h⟩
/-- tuple * int, the tuple not empty -/
def rRepT2 (K : PySem.W.Frag) : R2 := fun x y H Q => ∃ l k xs, x = .ref l ∧ y = .int k ∧ SqT K H l xs ∧ xs ≠ [] ∧ -1000 ≤ k ∧ k ≤ 1000 ∧ xs.length ≤ 1000 ∧ (k = 1 → Q (.ref l) H) ∧ ∀ p, H p = none → Q (.ref p) (upd H p (.tup (List.replicate k.toNat xs).flatten))
theorem op_repT2 : OpR X (binaryOp .Mult) (rRepT2 X.K) := by
  intro pins s σ H x y v u Q I rx ry h
  obtain ⟨l, k, xs, rfl, rfl, hT, hne, h1, h2, hz, q1, q⟩ := h
  by_cases hk2 : 2 ≤ k
  · exact op_repT pins s σ H _ _ v u Q I rx ry ⟨l, k, xs, rfl, rfl, hT, hne, hk2, h2, hz, q⟩
  cases rx
  obtain ⟨t, rfl⟩ := ry
  obtain ⟨its, r, ⟨⟨cls, dd, data, sl⟩, ho, hc, n, hd⟩, hs⟩ := I.tuple hT
  simp only at hc hd
  subst hc hd
  have hle : its.length = xs.length := r.length.symm
  have hn : its ≠ [] := fun e => hne (by
    rw [e] at hle
    exact List.eq_nil_of_length_eq_zero hle.symm)
  have hi : its.toArray.isEmpty = false := by
    cases its with
    | nil => exact absurd rfl hn
    | cons a b => rfl
  by_cases hk : k = 1
  · subst hk
    refine wpAny_binaryOp_repeat_ref (T := "tuple") (U := "int") (by decide) ⟨_, ho, rfl⟩ (fun s' => typeIs_int s' 1 t) noFill_tuple_mul F.fills_int_mul F.slot_int_rmul repeat_tuple F.slot_int_index.lookup
      (call_meets F.slot_int_rmul (typeIs_int s 1 t) F.entry_int_rmul (F.args_int_rmul_2 _ _) (int_rmul_tuple 1 t l its.toArray n dd sl)
        ⟨ho, rfl, ⟨_, ho, rfl⟩, call_meets F.slot_tuple_mul ⟨_, ho, rfl⟩ F.entry_tuple_mul (F.args_tuple_mul_2 _ _) (tuple_mul1 l its.toArray n dd sl t) ⟨ho, ?_⟩⟩)
    exact ⟨.ref l, H, I, rfl, q1 rfl⟩
  · have hk0 : k ≤ 0 := by omega
    have c0 : (decide (k < -(2 ^ 63)) || decide (k ≥ 2 ^ 63)) = false := by
      rw [decide_eq_false (by omega), decide_eq_false (by omega)] <;> rfl
    refine wpAny_binaryOp_repeat_ref (T := "tuple") (U := "int") (by decide) ⟨_, ho, rfl⟩ (fun s' => typeIs_int s' k t) noFill_tuple_mul F.fills_int_mul F.slot_int_rmul repeat_tuple F.slot_int_index.lookup
      (call_meets F.slot_int_rmul (typeIs_int s k t) F.entry_int_rmul (F.args_int_rmul_2 _ _) (int_rmul_tuple k t l its.toArray n dd sl)
        ⟨ho, rfl, ⟨_, ho, rfl⟩, call_meets F.slot_tuple_mul ⟨_, ho, rfl⟩ F.entry_tuple_mul (F.args_tuple_mul_2 _ _) (tuple_mul0 l its.toArray n dd sl k t hk0 c0 hi) ⟨ho, ?_⟩⟩)
    have e : (List.replicate k.toNat xs).flatten = [] := by rw [Int.toNat_of_nonpos hk0]; rfl
    rw [e] at q
    refine ⟨.ref s.heap.objs.size, _, I.laid (t' := s.toks) (o := .tup []) (fun b ob q => Heap.get?_push_of_some _ q) (Nat.le_refl _) ?_, rfl, q _ (I.hok.fresh (Nat.le_refl _))⟩
    exact ⟨Nat.zero_le _, [], .nil, IsTup.new _ _⟩
end
end DLs
namespace DL
open PySem PySem.Spec PyProof.Rows L2 PySem.W
section
variable {S : Sta} {pos p pos2 p2 : Pos} {a b c e o : Expr} {ta tb tc te : RE} {es : List Expr} {ua : RA} {x : Str}
theorem Reps.rep {K : PySem.W.Frag} {H : Hp} {ds : List D} {vs : List V} (r : Reps K H ds vs) : ∀ k : Nat, Reps K H (List.replicate k ds).flatten (List.replicate k vs).flatten
  | 0 => .nil
  | k + 1 => by simpa [List.replicate_succ] using r.append (r.rep k)
@[reducible] def rMulX : D → D → DH → RK → Prop
  | .int i, .int j, h, Q => CMul i j ∧ Q (.int (i * j)) h
  | .str x, .int k, h, Q => MulOk x k ∧ Q (.str (Txt.mul x k)) h
  | .tup ds, .int k, h, Q => (ds ≠ [] ∧ -1000 ≤ k ∧ k ≤ 1000 ∧ ds.length ≤ 1000) ∧ Q (.tup (List.replicate k.toNat ds).flatten) h
  | .ref a, .int k, h, Q => ∃ ds, h a = some (.lst ds) ∧ (-1000 ≤ k ∧ k ≤ 1000 ∧ ds.length ≤ 1000) ∧ ∀ p, h p = none → Q (.ref p) (dupd h p (.lst (List.replicate k.toNat ds).flatten))
  | _, _, _, _ => False
theorem len_reps {ds : List V} {k : Nat} (h1 : ds.length ≤ 1000) (h2 : k ≤ 1000) : ds.length * k ≤ sizeLine := by
  have := Nat.mul_le_mul h1 h2
  rw [sizeLine_eq]; omega
theorem od_mulX : OpD S (binaryOp .Mult) rMulX := by
  refine OpD.by (rr := fun x y H Q => rI CMul (fun i j => .int (i * j)) x y H Q ∨ DLs.rMulS x y H Q ∨ DLs.rRepT2 S.K x y H Q ∨ rRep x y H Q) (fun rst vw => OpR.or op_mul (OpR.or DLs.op_mulS (OpR.or (DLs.op_repT2 (X := S.cx rst)) op_rep))) ?_
  intro dx dy h Q q x y τ σ H QV rs rx ry k
  unfold rMulX at q
  split at q
  · cases rx; cases ry
    exact .inl ⟨_, _, rfl, rfl, q.1, k.val rs (.int _) q.2⟩
  · cases rx; cases ry
    exact .inr (.inl ⟨_, _, rfl, rfl, q.1, k.val rs (.str _) q.2⟩)
  · cases ry
    cases rx with | tup h1 r1 =>
    obtain ⟨⟨a1, a2, a3, a4⟩, q⟩ := q
    refine .inr (.inr (.inl ⟨_, _, _, rfl, rfl, h1, fun e => a1 (List.eq_nil_of_length_eq_zero (by rw [r1.length, e]; rfl)), a2, a3, by rw [← r1.length]; exact a4, fun e => ?_, fun p n => k.newTup rs (r1.rep _) q n⟩))
    subst e
    simp at q
    exact k.val rs (.tup h1 r1) q
  · cases rx; cases ry
    obtain ⟨ds, ha, ⟨a2, a3, a4⟩, q⟩ := q
    obtain ⟨vs, f, r⟩ := RelH.lst rs.ob ha
    refine .inr (.inr (.inr ⟨_, _, _, rfl, rfl, f, by omega, by omega, len_reps (by rw [← r.length]; exact a4) (by omega), fun p n => k.newLst rs (r.rep _) q n⟩))
  · exact q.elim
/-! ### list(range(..)), tuple(range(..)) -/
theorem reps_rg {K : PySem.W.Frag} {H : Hp} (i j : Int) : Reps K H (rngD i (j - i).toNat) (rgV i j) := by
  unfold rngD rgV
  generalize List.range (j - i).toNat = l
  induction l with
  | nil => exact .nil
  | cons a r ih => exact .cons (.int _) ih
@[reducible] def rLstR1 (ta : RE) : RE := fun τ h Q => ta τ h fun d h1 => match d with
  | .int j => (-1000000 ≤ j ∧ j ≤ 1000000) ∧ ∀ p, h1 p = none → Q (.ref p) (dupd h1 p (.lst (rngD 0 j.toNat)))
  | _ => False
@[reducible] def rTupR1 (ta : RE) : RE := fun τ h Q => ta τ h fun d h1 => match d with
  | .int j => (-1000000 ≤ j ∧ j ≤ 1000000) ∧ Q (.tup (rngD 0 j.toNat)) h1
  | _ => False
@[reducible] def rLstR2 (ta tb : RE) : RE := fun τ h Q => ta τ h fun d h1 => tb τ h1 fun e h2 => match d, e with
  | .int i, .int j => (-1000000 ≤ i ∧ i ≤ 1000000 ∧ -1000000 ≤ j ∧ j ≤ 1000000) ∧ ∀ p, h2 p = none → Q (.ref p) (dupd h2 p (.lst (rngD i (j - i).toNat)))
  | _, _ => False
@[reducible] def rTupR2 (ta tb : RE) : RE := fun τ h Q => ta τ h fun d h1 => tb τ h1 fun e h2 => match d, e with
  | .int i, .int j => (-1000000 ≤ i ∧ i ≤ 1000000 ∧ -1000000 ≤ j ∧ j ≤ 1000000) ∧ Q (.tup (rngD i (j - i).toNat)) h2
  | _, _ => False
theorem rgOk {i j : Int} (h1 : -1000000 ≤ i) (h2 : i ≤ 1000000) (h3 : -1000000 ≤ j) (h4 : j ≤ 1000000) : RgOk i j := ⟨by omega, by omega, by omega, by omega, by omega⟩
theorem de_lstR1 (hgl : glbI S.sc "list" = true) (hml : S.mg "list" = none) (hg : glbI S.sc "range" = true) (hm : S.mg "range" = none) (ha : DE S a ta) (na : ∀ env, starEach [a] env = (false, eval a env) :: starEach [] env)
    (nb : ∀ env, starEach [.Call (.Name "range" p2) [a] [] pos2] env = (false, eval (.Call (.Name "range" p2) [a] [] pos2) env) :: starEach [] env) :
    DE S (.Call (.Name "list" p) [.Call (.Name "range" p2) [a] [] pos2] [] pos) (rLstR1 ta) := by
  refine ⟨fun τ h Q q r v σ H QV rs k pins s I => ?_⟩
  refine (pe_listRg (X := S.cx r) rfl (gl_of v hgl) hml (prg_1 (gl_of v hg) hm (peTop (e := a)) (na _)) (nb _)).run pins s σ H QV I ?_
  refine ha.run τ h _ q r v σ H _ rs fun d w h1 H1 e1 rs1 rp1 q1 => ?_
  dsimp only at q1
  split at q1
  · rename_i j
    cases rp1
    obtain ⟨⟨a1, a2⟩, q1⟩ := q1
    have e : (j - 0).toNat = j.toNat := by rw [Int.sub_zero]
    exact ⟨j, rfl, rgOk (by omega) (by omega) a1 a2, fun q hq => (k.at e1).newLst rs1 (reps_rg 0 j) (by rw [e]; exact q1) hq⟩
  · exact q1.elim
theorem de_tupR1 (hgl : glbI S.sc "tuple" = true) (hml : S.mg "tuple" = none) (hg : glbI S.sc "range" = true) (hm : S.mg "range" = none) (ha : DE S a ta) (na : ∀ env, starEach [a] env = (false, eval a env) :: starEach [] env)
    (nb : ∀ env, starEach [.Call (.Name "range" p2) [a] [] pos2] env = (false, eval (.Call (.Name "range" p2) [a] [] pos2) env) :: starEach [] env) :
    DE S (.Call (.Name "tuple" p) [.Call (.Name "range" p2) [a] [] pos2] [] pos) (rTupR1 ta) := by
  refine ⟨fun τ h Q q r v σ H QV rs k pins s I => ?_⟩
  refine (pe_tupRg (X := S.cx r) rfl (gl_of v hgl) hml (prg_1 (gl_of v hg) hm (peTop (e := a)) (na _)) (nb _)).run pins s σ H QV I ?_
  refine ha.run τ h _ q r v σ H _ rs fun d w h1 H1 e1 rs1 rp1 q1 => ?_
  dsimp only at q1
  split at q1
  · rename_i j
    cases rp1
    obtain ⟨⟨a1, a2⟩, q1⟩ := q1
    have e : (j - 0).toNat = j.toNat := by rw [Int.sub_zero]
    exact ⟨j, rfl, rgOk (by omega) (by omega) a1 a2, fun q hq => (k.at e1).newTup rs1 (reps_rg 0 j) (by rw [e]; exact q1) hq⟩
  · exact q1.elim
theorem de_lstR2 (hgl : glbI S.sc "list" = true) (hml : S.mg "list" = none) (hg : glbI S.sc "range" = true) (hm : S.mg "range" = none) (ha : DE S a ta) (hb : DE S b tb) (na : ∀ env, starEach [a, b] env = (false, eval a env) :: starEach [b] env) (nc : ∀ env, starEach [b] env = (false, eval b env) :: starEach [] env) (hp : ∀ env, (backTo pos2 (starEach [b] env)).any (·.1) = false)
    (nb : ∀ env, starEach [.Call (.Name "range" p2) [a, b] [] pos2] env = (false, eval (.Call (.Name "range" p2) [a, b] [] pos2) env) :: starEach [] env) :
    DE S (.Call (.Name "list" p) [.Call (.Name "range" p2) [a, b] [] pos2] [] pos) (rLstR2 ta tb) := by
  refine ⟨fun τ h Q q r v σ H QV rs k pins s I => ?_⟩
  refine (pe_listRg (X := S.cx r) rfl (gl_of v hgl) hml (prg_2 (gl_of v hg) hm (peTop (e := a)) (peTop (e := b)) (na _) (nc _) (hp _)) (nb _)).run pins s σ H QV I ?_
  refine ha.run τ h _ q r v σ H _ rs fun d w h1 H1 e1 rs1 rp1 q1 => ?_
  refine hb.run τ h1 _ q1 r v σ H1 _ rs1 fun d2 w2 h2 H2 e2 rs2 rp2 q2 => ?_
  dsimp only at q2
  split at q2
  · rename_i i j
    cases rp1; cases rp2
    obtain ⟨⟨a1, a2, a3, a4⟩, q2⟩ := q2
    exact ⟨i, j, rfl, rfl, rgOk a1 a2 a3 a4, fun q hq => (k.at (e1.trans e2)).newLst rs2 (reps_rg i j) q2 hq⟩
  · exact q2.elim
theorem de_tupR2 (hgl : glbI S.sc "tuple" = true) (hml : S.mg "tuple" = none) (hg : glbI S.sc "range" = true) (hm : S.mg "range" = none) (ha : DE S a ta) (hb : DE S b tb) (na : ∀ env, starEach [a, b] env = (false, eval a env) :: starEach [b] env) (nc : ∀ env, starEach [b] env = (false, eval b env) :: starEach [] env) (hp : ∀ env, (backTo pos2 (starEach [b] env)).any (·.1) = false)
    (nb : ∀ env, starEach [.Call (.Name "range" p2) [a, b] [] pos2] env = (false, eval (.Call (.Name "range" p2) [a, b] [] pos2) env) :: starEach [] env) :
    DE S (.Call (.Name "tuple" p) [.Call (.Name "range" p2) [a, b] [] pos2] [] pos) (rTupR2 ta tb) := by
  refine ⟨fun τ h Q q r v σ H QV rs k pins s I => ?_⟩
  refine (pe_tupRg (X := S.cx r) rfl (gl_of v hgl) hml (prg_2 (gl_of v hg) hm (peTop (e := a)) (peTop (e := b)) (na _) (nc _) (hp _)) (nb _)).run pins s σ H QV I ?_
  refine ha.run τ h _ q r v σ H _ rs fun d w h1 H1 e1 rs1 rp1 q1 => ?_
  refine hb.run τ h1 _ q1 r v σ H1 _ rs1 fun d2 w2 h2 H2 e2 rs2 rp2 q2 => ?_
  dsimp only at q2
  split at q2
  · rename_i i j
    cases rp1; cases rp2
    obtain ⟨⟨a1, a2, a3, a4⟩, q2⟩ := q2
    exact ⟨i, j, rfl, rfl, rgOk a1 a2 a3 a4, fun q hq => (k.at (e1.trans e2)).newTup rs2 (reps_rg i j) q2 hq⟩
  · exact q2.elim
/-! ### max(.., default=..) -/
structure BestDf (f : PyData → List PyData → PyData) (d0 : D) (ds : List D) (h : DH) (Q : RK) : Prop where
  ok : dats 50 ds = true ∧ AlikeAll (toPs ds)
  nil : ds = [] → Q d0 h
  cons : ∀ x xs, ds = x :: xs → ∀ d ∈ ds, toP d = f (toP x) (toPs xs) → Q d h
structure BestDfL (f : PyData → List PyData → PyData) (d0 : D) (a : Addr) (h : DH) (Q : RK) : Prop where
  ex : ∃ ds, h a = some (.lst ds) ∧ BestDf f d0 ds h Q
@[reducible] def rMaxDf (ta td : RE) : RE := fun τ h Q => ta τ h fun d h1 => td τ h1 fun d0 h2 => match d with
  | .tup ds => BestDf maxD d0 ds h2 Q
  | .ref a => BestDfL maxD d0 a h2 Q
  | _ => False
theorem best_dp {K : PySem.W.Frag} {H : Hp} {ds : List D} {vs : List V} (rr : Reps K H ds vs) {i : Nat} {v : V} {d : PyData} (hv : vs[i]? = some v) (hd : (toPs ds)[i]? = some d) : ∃ w ∈ ds, Rep K H w v ∧ d = toP w := by
  obtain ⟨w, hw, rw'⟩ := rr.getV hv
  refine ⟨w, List.mem_of_getElem? hw, rw', ?_⟩
  rw [toPs_map, List.getElem?_map, hw] at hd
  exact (Option.some.inj hd).symm
theorem de_maxDf {kp : Pos} (hg : glbI S.sc "max" = true) (hm : S.mg "max" = none) (ha : DE S a ta) (hd : DE S b tb) (na : ∀ env, starEach [a] env = (false, eval a env) :: starEach [] env)
    (k1 : ∀ env, (backToKw pos (keywordEach [⟨some (Str.ofString "default"), b, kp⟩] env)).all (·.1.isSome) = true) (k2 : ∀ env, (backToKw pos (keywordEach [⟨some (Str.ofString "default"), b, kp⟩] env)).any (·.1.isNone) = false)
    (k3 : ∀ env, (backToKw pos (keywordEach [⟨some (Str.ofString "default"), b, kp⟩] env)).filterMap (·.1) = [Str.ofString "default"])
    (k4 : ∀ env, backTo pos (starEach [a] env) = (false, eval a env) :: backTo pos (starEach [] env)) (k5 : ∀ env, (backTo pos (starEach [a] env)).any (·.1) = false) :
    DE S (.Call (.Name "max" p) [a] [⟨some (Str.ofString "default"), b, kp⟩] pos) (rMaxDf ta tb) := by
  refine ⟨fun τ h Q q r v σ H QV rs k pins s I => ?_⟩
  refine (pe_callBK (X := S.cx r) (ks := [Str.ofString "default"]) (DLs.cr_maxDf (X := S.cx r) rfl (by have := vw_units v; show r.A.units + 66 < cLine; omega)) (gl_of v hg) hm (by decide +kernel) (pa_cons (peTop (e := a)) pa_nil (na _)) (pk_cons (peTop (e := b)) pk_nil) (by decide) (by decide) (k4 _) (k5 _) (k1 _) (k2 _) (k3 _)).run pins s σ H QV I ?_
  refine ha.run τ h _ q r v σ H _ rs fun d w h1 H1 e1 rs1 rp1 q1 => ?_
  refine hd.run τ h1 _ q1 r v σ H1 _ rs1 fun d0 w0 h2 H2 e2 rs2 rp2 q2 => ?_
  have e12 := e1.trans e2
  have rp1 := rp1.ext e2
  have go : ∀ {ad : Addr} {ds : List D} {vs : List V}, (SqL S.K H2 ad vs ∨ SqT S.K H2 ad vs) → Reps S.K H2 ds vs → BestDf maxD d0 ds h2 Q → DLs.rBestDf S.K maxD [.ref ad] [w0] H2 QV := fun {ad ds vs} hs rr hb => by
    have hz := (toPs_lay _ _ hb.ok.1).2
    refine ⟨ad, vs, toPs ds, w0, rfl, rfl, hs, rr.dp hb.ok.1, hb.ok.2, by omega, fun e => ?_, fun y ys e i v d hv hdi ed => ?_⟩
    · subst e
      exact (k.at e12).val rs2 rp2 (hb.nil (List.eq_nil_of_length_eq_zero rr.length))
    · cases ds with
      | nil => simp [toPs] at e
      | cons x xs =>
        obtain ⟨w, hw, rw', rfl⟩ := best_dp rr hv hdi
        obtain ⟨rfl, rfl⟩ : toP x = y ∧ toPs xs = ys := by simpa [toPs] using e
        exact (k.at e12).val rs2 rw' (hb.cons x xs rfl w hw ed)
  dsimp only at q2
  split at q2
  · cases rp1 with | tup hh rr => exact go (.inr hh) rr q2
  · cases rp1
    obtain ⟨ds, hp, hb⟩ := q2
    obtain ⟨vs, f, rr⟩ := RelH.lst rs2.ob hp
    exact go (.inl (SqL.of f)) rr hb
  · exact q2.elim
theorem BestDf.maxI {ns : List Int} {d0 : D} {h : DH} {Q : RK} (h0 : ns = [] → Q d0 h) (q : ∀ m, m ∈ ns → (∀ y, y ∈ ns → y ≤ m) → Q (.int m) h) : BestDf maxD d0 (ns.map D.int) h Q := by
  refine ⟨⟨dats_ints _ _, alike_ints' _⟩, fun e => h0 (by simpa using e), fun x xs e d hd em => ?_⟩
  cases ns with
  | nil => cases e
  | cons n r =>
    obtain ⟨rfl, rfl⟩ : D.int n = x ∧ r.map D.int = xs := by simpa using e
    obtain ⟨m, hm, rfl⟩ := List.mem_map.mp hd
    rw [toPs_ints] at em
    have e1 : PyData.int m = .int (r.foldl max n) := em.trans (maxD_ints n r)
    have e2 := PyData.int.inj e1
    obtain ⟨⟨k1, k2⟩, k3⟩ := foldl_max_le r n
    refine q m hm fun y hy => ?_
    rcases List.mem_cons.mp hy with rfl | hy
    · omega
    · rw [e2]; exact k2 y hy
/-! ### names of the module with a written value -/
theorem de_gstr {c : Str} (hg : glbI S.sc x = true) (hm : ∃ t, S.mg x = some (.str c t)) : DE S (.Name x p) (rC (.str c)) := by
  refine ⟨fun τ h Q q r v σ H QV rs k pins s I => ?_⟩
  obtain ⟨t, hm⟩ := hm
  obtain ⟨g1, g2, g3⟩ := glbI_of hg
  exact (pe_glob (X := S.cx r) (v := .str c) (gl_of v hg) hm ⟨t, rfl⟩ g2).run pins s σ H QV I (k.val rs (.str c) q)
theorem de_gint {c : Int} (hg : glbI S.sc x = true) (hm : ∃ t, S.mg x = some (.int c t)) : DE S (.Name x p) (rC (.int c)) := by
  refine ⟨fun τ h Q q r v σ H QV rs k pins s I => ?_⟩
  obtain ⟨t, hm⟩ := hm
  obtain ⟨g1, g2, g3⟩ := glbI_of hg
  exact (pe_glob (X := S.cx r) (v := .int c) (gl_of v hg) hm ⟨t, rfl⟩ g2).run pins s σ H QV I (k.val rs (.int c) q)
end
end DL
namespace DLs
open PySem PySem.Spec PyProof.Rows L2 PySem.W
section
variable {X : Cx}
def rSumT (K : PySem.W.Frag) : List V → Hp → VK → Prop := fun vs H Q => ∃ (a : Addr) (ns : List Int), vs = [V.ref a] ∧ SqT K H a (ns.map V.int) ∧ Q (.int ns.sum) H
theorem cr_sumT (hc : X.calm = true) : CallR X (.builtin "sum") (rSumT X.K) := by
  intro pins s σ H vs us Q I r h
  obtain ⟨a, ns, rfl, hs, q⟩ := h
  obtain ⟨its, rv, hl, _⟩ := I.tuple hs
  rw [Vals.ref1 r]
  have hi := rv.ints
  obtain ⟨xs, e⟩ := hi.allInts.items
  have hn : numsOf (intItems xs).toList = ns := by rw [← e]; exact hi.numsOf
  rw [nums_intItems] at hn
  rw [e] at hl
  refine ktm_sumG (I.ok.hd hc) hl fun h' tk t' hk => ?_
  rw [preSum_eq, List.take_of_length_le (by simp), hn]
  exact ⟨.int _, H, I.kept hk, ⟨_, rfl⟩, q⟩
end
end DLs
namespace DL
open PySem PySem.Spec PyProof.Rows L2 PySem.W
section
variable {S : Sta}
structure SumL (a : Addr) (h : DH) (Q : RK) : Prop where
  ex : ∃ ns : List Int, h a = some (.lst (ns.map D.int)) ∧ Q (.int ns.sum) h
structure SumT (ds : List D) (h : DH) (Q : RK) : Prop where
  ex : ∃ ns : List Int, ds = ns.map D.int ∧ Q (.int ns.sum) h
theorem SumL.mk' {a : Addr} {h : DH} {Q : RK} {ns : List Int} (ha : h a = some (.lst (ns.map D.int))) (q : Q (.int ns.sum) h) : SumL a h Q := ⟨ns, ha, q⟩
theorem SumT.mk' {h : DH} {Q : RK} {ns : List Int} (q : Q (.int ns.sum) h) : SumT (ns.map D.int) h Q := ⟨ns, rfl, q⟩
theorem SumT.of {ds : List D} {h : DH} {Q : RK} {ns : List Int} (e : ds = ns.map D.int) (q : Q (.int ns.sum) h) : SumT ds h Q := ⟨ns, e, q⟩
@[reducible] def rSumX : List D → DH → RK → Prop
  | [.ref a], h, Q => SumL a h Q
  | [.tup ds], h, Q => SumT ds h Q
  | _, _, _ => False
theorem cd_sumX : CallD S (.builtin "sum") rSumX := by
  refine CallD.by fun rst vw => ⟨_, DLs.CallR.or (cr_sum (X := S.cx rst) rfl) (DLs.cr_sumT (X := S.cx rst) rfl), ?_⟩
  intro ds h Q q vs τ σ H QV pins s I rs rv k
  unfold rSumX at q
  split at q
  · obtain ⟨v, rfl, r⟩ := reps1 rv
    cases r
    obtain ⟨ns, hp, q⟩ := q
    obtain ⟨vs, f, rr⟩ := RelH.lst rs.ob hp
    rw [rr.ints] at f
    exact .inl ⟨_, ns, rfl, SqL.of f, k.val rs (.int _) q⟩
  · obtain ⟨v, rfl, r⟩ := reps1 rv
    obtain ⟨ns, rfl, q⟩ := q
    cases r with | tup hh rr =>
    rw [rr.ints] at hh
    exact .inr ⟨_, ns, rfl, hh, k.val rs (.int _) q⟩
  · exact q.elim
end
end DL
namespace DL
open PySem PySem.Spec PyProof.Rows L2 PySem.W
/-- over enumerate -/
theorem dforW_enum {σ α : Type} {g : RG} {tb : RS} {grd : DH → Prop} {D : DEnds} {τ : DSt} {h : DH} {f : α → DL.D} {as : List α} (cv : σ → List (Nat × DL.D)) (he : σ → DH) (P : Nat → σ → Prop) (s0 : σ) (w0 : setsD τ (cv s0) = τ) (e0 : h = he s0) (p0 : P 0 s0) (hg : ∀ i s, P i s → grd (he s))
    (hs : ∀ (i : Nat) (a : α) s (N : DSt → DH → Prop), as[i]? = some a → P i s → (∀ s' τ' h', P (i + 1) s' → Weak τ' (setsD τ (cv s')) h' (he s') → N τ' h') → g (.tup [.int (i : Int), f a]) (setsD τ (cv s)) (he s) fun τ' h' => tb { nx := N, rt := D.rt, bk := D.nx, ct := N } τ' h')
    (hd : ∀ s, P as.length s → D.nx (setsD τ (cv s)) (he s)) : dforW g tb grd D (enumD 0 (as.map f)) τ h := by
  refine dforW_st cv he P s0 w0 e0 p0 hg (fun i x s N hx hp hN => ?_) (fun s hp => hd s (by rw [enumD_length, List.length_map] at hp; exact hp))
  have hlt : i < as.length := by have := (List.getElem?_eq_some_iff.mp hx).1; rw [enumD_length, List.length_map] at this; exact this
  rw [enumD_get 0 (as.map f) i (f as[i]) (by simp [hlt]), Nat.zero_add] at hx
  cases hx
  exact hs i as[i] s N (List.getElem?_eq_getElem hlt) hp hN
theorem getD_some {α : Type} {l : List α} {i : Nat} {a : α} (d : α) (h : l[i]? = some a) : l.getD i d = a := by simp [List.getD, h]
theorem lt_some {α : Type} {l : List α} {i : Nat} {a : α} (h : l[i]? = some a) : i < l.length := (List.getElem?_eq_some_iff.mp h).1
theorem getD_get {α : Type} {l : List α} {i : Nat} (d : α) (h : i < l.length) : l[i]? = some (l.getD i d) := by simp [List.getD, List.getElem?_eq_getElem h]
theorem mem_getD {α : Type} {l : List α} {i : Nat} (d : α) (h : i < l.length) : l.getD i d ∈ l := by simp [List.getD, List.getElem?_eq_getElem h]
/-- the first of a range -/
theorem filter_first {p : Nat → Bool} {N n : Nat} (hn : n < N) (hp : p n = true) (hf : ∀ m, m < n → p m = false) : ∃ r, (List.range N).filter p = n :: r := by
  have e : N = n + ((N - n - 1) + 1) := by omega
  rw [e, List.range_add, List.filter_append]
  have e1 : (List.range n).filter p = [] := by
    rw [List.filter_eq_nil_iff]
    intro a ha
    rw [hf a (List.mem_range.mp ha)]; simp
  rw [e1, List.range_succ_eq_map, List.map_cons, List.nil_append, List.filter_cons, Nat.add_zero, if_pos hp]
  exact ⟨_, rfl⟩
theorem first_of {p : Nat → Bool} : ∀ {n : Nat}, p n = true → ∃ m, m ≤ n ∧ p m = true ∧ ∀ k, k < m → p k = false := by
  intro n
  induction n using Nat.strongRecOn with
  | _ n ih =>
    intro h
    by_cases c : ∃ m, m < n ∧ p m = true
    · obtain ⟨m, hm, hp⟩ := c
      obtain ⟨k, hk, r⟩ := ih m hm hp
      exact ⟨k, by omega, r⟩
    · refine ⟨n, Nat.le_refl _, h, fun k hk => ?_⟩
      cases e : p k with
      | false => rfl
      | true => exact absurd ⟨k, hk, e⟩ c
/-- for a law: what stands behind the box -/
theorem law_start {h : DH} {b dl : Addr} (hb : h b = none) (hdl : h dl = none) (hne : dl ≠ b) {P : DH → Prop} (k : ∀ h0, BoxAt h0 b → Sub h h0 → P h0) : P (dupd (dupd h b (.box dl)) dl .hid) :=
  k _ (.mk hne) (Sub.up2 hdl (Sub.up2 hb (.refl _)))

theorem cut_mid {α : Type} (xs : List α) (a b : Int) (ha : 0 ≤ a) (hb : 0 ≤ b) : cut xs (some a) (some b) = (xs.drop a.toNat).take (b.toNat - a.toNat) := by
  unfold cut
  have e1 : HT.sIx xs.length 0 (some a) = min a.toNat xs.length := by
    show (if a < 0 then _ else _) = _
    rw [if_neg (by omega)]
  have e2 : HT.sIx xs.length xs.length (some b) = min b.toNat xs.length := by
    show (if b < 0 then _ else _) = _
    rw [if_neg (by omega)]
  rw [e1, e2]
  by_cases z : a.toNat ≤ xs.length
  · rw [Nat.min_eq_left z]
    by_cases y : b.toNat ≤ xs.length
    · rw [Nat.min_eq_left y]
    · rw [Nat.min_eq_right (by omega), List.take_of_length_le (by rw [List.length_drop]; omega), List.take_of_length_le (by rw [List.length_drop]; omega)]
  · rw [Nat.min_eq_right (show xs.length ≤ a.toNat by omega), List.drop_length, List.drop_eq_nil_of_le (show xs.length ≤ a.toNat by omega)]; simp
end DL
namespace DL
open PySem PySem.Spec PyProof.Rows L2
section
variable {S : Sta} {pos : Pos} {tg iter elt : Expr} {te : RE}
/-! ### comprehensions that forget -/
def dlcW (g : RG) (tt : RT) (te : RE) (grd : DH → Prop) (p : Addr) (τ : DSt) (Q : RK) : List D → DH → Prop
  | [], h => grd h ∧ Q (.ref p) h
  | x :: xs, h => grd h ∧ g x τ h fun τ2 h2 => tt τ2 h2 fun b h3 =>
      Br b (te τ2 h3 fun y h4 => ∃ acc h5, h4 p = some (.lst acc) ∧ acc.length < sizeLine ∧ Sub h5 (dupd h4 p (.lst (acc ++ [y]))) ∧ dlcW g tt te grd p τ Q xs h5) (∃ h5, Sub h5 h3 ∧ dlcW g tt te grd p τ Q xs h5)
@[reducible] def rLcW (ti : RI) (g : RG) (tt : RT) (te : RE) (vs : List Nat) : RE := fun τ h Q => ti τ h fun ds grd h1 => ∀ p, h1 p = none → dlcW g tt te grd p (wipeD τ vs) Q ds (dupd h1 p (.lst []))
theorem dlcW_grd {g : RG} {tt : RT} {te : RE} {grd : DH → Prop} {p : Addr} {τ : DSt} {Q : RK} {xs : List D} {h : DH} (q : dlcW g tt te grd p τ Q xs h) : grd h := by
  cases xs with
  | nil => exact q.1
  | cons _ _ => exact q.1
theorem lcW_reading {ifs : List Expr} {scope : Scope} {own : List (Str × Nat)} {ws : List Nat} {ti : RI} {g : RG} {tt : RT} (hi : DI S tg iter ti) (hg : DG (S.blk scope) tg ws g) (ht : DTs (S.blk scope) ifs tt) (he : DE (S.blk scope) elt te)
    (hw : ∀ j, j ∈ ws → j ∈ own.map (·.2)) {τ : DSt} {h : DH} {Q : RK} (q : rLcW ti g tt te (own.map (·.2)) τ h Q) {r : Rest} (v : Vw S r) {σ : L2.St} {H : Hp} {QV : VK} (hl : σ.length = S.N.length) (rs : RelS S.K h τ σ H) (kt : Kont S.K H τ σ Q QV) :
    tLc (iTop (S.cx r) tg iter) (fun v' σ H Q => ∀ r', Vw (S.blk scope) r' → gTop ((S.blk scope).cx r') tg v' σ H Q)
      (fun σ H Q => ∀ r', Vw (S.blk scope) r' → ∀ pins s, Inv ((S.blk scope).cx r') pins σ H s → wpAny (model S.P S.w) r'.A (forIn ifs true fun c r1 => if r1 = true then do let ok ← isTrue c r'.env (eval c r'.env); pure (ForInStep.yield ok) else pure (ForInStep.yield r1)) (TP ((S.blk scope).cx r') pins σ Q) (fun _ _ => False) s)
      (fun σ H Q => ∀ r', Vw (S.blk scope) r' → tTop ((S.blk scope).cx r') elt σ H Q) (own.map (·.2)) σ H QV := by
  refine hi.run τ h _ q r v σ H _ rs fun ds grd J h1 H1 e1 rs1 wk q1 => fun D nD => ?_
  have q1 := q1 D (rs1.ob.free nD)
  have eD : Ext H1 (upd H1 D (.lst [])) := .new nD
  have rD : RelS S.K (dupd h1 D (.lst [])) (wipeD τ (own.map (·.2))) (wipe σ (own.map (·.2))) (upd H1 D (.lst [])) := (rs1.to eD (RelH.newLst rs1.ob .nil nD)).wipe _
  refine ⟨fun i m H2 => m = ds.length - i ∧ i ≤ ds.length ∧ ∃ h2, Ext H1 H2 ∧ RelS S.K h2 (wipeD τ (own.map (·.2))) (wipe σ (own.map (·.2))) H2 ∧ dlcW g tt te grd D (wipeD τ (own.map (·.2))) Q (ds.drop i) h2, ⟨ds.length, by simp, Nat.zero_le _, _, eD, rD, by simpa using q1⟩, ?_⟩
  rintro i m H2 ⟨rfl, hi', h2, e2, rs2, q2⟩
  have hgr := dlcW_grd q2
  by_cases hlt : i < ds.length
  · rw [List.drop_eq_getElem_cons hlt] at q2
    refine .inr ⟨wk.go i h2 H2 e2 rs2.ob hgr hlt, fun H3 => ∃ h3, Ext H1 H3 ∧ RelS S.K h3 (wipeD τ (own.map (·.2))) (wipe σ (own.map (·.2))) H3 ∧ dlcW g tt te grd D (wipeD τ (own.map (·.2))) Q (ds.drop (i + 1)) h3, ?_, ?_⟩
    · rintro H3 ⟨h3, e3, rs3, q3⟩
      exact ⟨ds.length - (i + 1), by omega, rfl, hlt, h3, e3, rs3, q3⟩
    · intro x H3 hy r1 v1
      obtain ⟨e3, rh3, d, hd, rd⟩ := wk.yld i h2 H2 x H3 e2 rs2.ob hgr hlt hy
      rw [List.getElem?_eq_getElem hlt] at hd
      cases hd
      have rs3 := rs2.to e3 rh3
      refine hg.run _ _ h2 _ q2.2 r1 v1 x _ H3 _ (by rw [wipe_length]; exact hl) rs3 rd fun τ4 h4 σ4 H4 e4 rs4 l4 t4 q4 => ⟨?_, fun r2 v2 => ?_⟩
      · refine wipe_same (l4.trans (wipe_length _ _)) fun j hj => ?_
        rw [t4 j fun z => hj (hw j z), wipe_get hj]
      · refine ht.run τ4 h4 _ q4 r2 v2 σ4 H4 _ rs4 fun b h5 H5 e5 rs5 q5 => ?_
        have e25 := ((e2.trans e3).trans e4).trans e5
        have keep : ∀ (h6 : DH) (H6 : Hp), Ext H1 H6 → RelH S.K h6 H6 → RelS S.K h6 (wipeD τ (own.map (·.2))) (wipe σ (own.map (·.2))) H6 := fun h6 H6 e6 o6 => (rs1.to e6 o6).wipe _
        cases b with
        | true =>
          refine iteT fun r3 v3 => ?_
          refine he.run τ4 h5 _ (q5.1 rfl) r3 v3 σ4 H5 _ rs5 fun dy y h6 H6 e6 rs6 rp6 q6 => ?_
          obtain ⟨acc, h7, hp, hz, hs7, q6⟩ := q6
          obtain ⟨vs, f, rr⟩ := RelH.lst rs6.ob hp
          refine ⟨vs, f, by rw [← rr.length]; exact hz, h7, (e25.trans e6).trans (.lst f), keep _ _ ((e25.trans e6).trans (.lst f)) ((RelH.setLst rs6.ob hp f (rr.append (.one rp6))).sub hs7), q6⟩
        | false =>
          obtain ⟨h7, hs7, q7⟩ := q5.2 rfl
          exact iteF ⟨h7, e25, keep _ _ e25 (rs5.ob.sub hs7), q7⟩
  · obtain rfl : i = ds.length := by omega
    rw [List.drop_length] at q2
    refine .inl ⟨wk.stop h2 H2 e2 rs2.ob hgr, ?_⟩
    exact kt _ _ h2 H2 (e1.trans e2) (rs1.to e2 rs2.ob) (.ref D) q2.2
theorem de_lcW {ifs : List Expr} {scope : Scope} {own : List (Str × Nat)} {ws : List Nat} {ti : RI} {g : RG} {tt : RT} (hi : DI S tg iter ti) (ok : blkC S.N S.sc scope own = true) (hg : DG (S.blk scope) tg ws g) (ht : DTs (S.blk scope) ifs tt) (he : DE (S.blk scope) elt te)
    (hw : ∀ j, j ∈ ws → j ∈ own.map (·.2)) (hs : ∀ env x, foldedSetIterable iter env x = pure x) : DE S (.ListComp elt [⟨tg, iter, ifs, 0⟩] scope pos) (rLcW ti g tt te (own.map (·.2))) := by
  refine ⟨fun τ h Q q r v σ H QV rs kt pins s I => ?_⟩
  refine (pe_lc (X := S.cx r) (own := own) rfl v.nd piTop (by show BlkOk S.N r.env.scope scope own; rw [v.sc]; exact blkOk_by ok) ?_ ?_ ?_ (hs _)).run pins s σ H QV I (lcW_reading hi hg ht he hw q v I.len rs kt)
  · exact fun s1 H1 C cl fp => ⟨fun pins s σ H w u Q I r1 h => h _ (vw_blk v s1 H1 C cl fp) pins s u I r1⟩
  · exact fun s1 H1 C cl fp => ⟨fun pins s σ H Q I h => h _ (vw_blk v s1 H1 C cl fp) pins s I⟩
  · exact fun s1 H1 C cl fp => ⟨fun pins s σ H Q I h => h _ (vw_blk v s1 H1 C cl fp) pins s I⟩
theorem ds_setLcW {i : Nat} {y : Str} {py spos : Pos} {ifs : List Expr} {scope : Scope} {own : List (Str × Nat)} {ws : List Nat} {ti : RI} {g : RG} {tt : RT} (hy : S.N[i]? = some y) (hl : locI S.N S.sc (fun _ => false) i = true) (hln : (py.line == pos.line) = true) (hp : spos.line = pos.line ∨ True)
    (hsw : (scope.names.any fun (n, k) => n == y && (k == .local || k == .cell)) = false) (hk : S.sc.kind = .function) (hi : DI S tg iter ti) (ok : blkC S.N S.sc scope own = true) (hg : DG (S.blk scope) tg ws g) (ht : DTs (S.blk scope) ifs tt) (he : DE (S.blk scope) elt te)
    (hw : ∀ j, j ∈ ws → j ∈ own.map (·.2)) (hs : ∀ env x, foldedSetIterable iter env x = pure x) : DS S (.Assign [.Name y py] (.ListComp elt [⟨tg, iter, ifs, 0⟩] scope pos) spos) (rAsg (rLcW ti g tt te (own.map (·.2))) (gNm i)) := by
  refine ⟨fun D τ h q r v σ H DV hlen rs kt pins s I => ?_⟩
  have ly : r.env.scope.names.lookup y = some .local := by rw [v.sc]; exact (locI_of hl hy).elim id fun z => by cases z.2
  refine (ps_setLc (X := S.cx r) (own := own) rfl v.nd hy ly (sw_true (by rw [v.sc]; exact hk) ly hln hsw) piTop (by show BlkOk S.N r.env.scope scope own; rw [v.sc]; exact blkOk_by ok) ?_ ?_ ?_ (hs _)).run pins s σ H DV I
    (lcW_reading hi hg ht he hw q v hlen rs fun d w h1 H1 e1 rs1 rp1 q1 => kt.nx _ _ _ _ e1 (rs1.set (by rw [hlen]; exact (List.getElem?_eq_some_iff.mp hy).1) rp1) (by simpa using hlen) (by rw [← sto_eq]; exact q1))
  · exact fun s1 H1 C cl fp => ⟨fun pins s σ H w u Q I r1 h => h _ (vw_blk v s1 H1 C cl fp) pins s u I r1⟩
  · exact fun s1 H1 C cl fp => ⟨fun pins s σ H Q I h => h _ (vw_blk v s1 H1 C cl fp) pins s I⟩
  · exact fun s1 H1 C cl fp => ⟨fun pins s σ H Q I h => h _ (vw_blk v s1 H1 C cl fp) pins s I⟩
/-- the items so far as a list of one's own -/
theorem dlcW_st {β : Type} {g : RG} {tt : RT} {te : RE} {grd : DH → Prop} {p : Addr} {τ : DSt} {Q : RK} {h : DH} {xs : List D} (enc : β → D) (P : Nat → List β → Prop) (h0 : P 0 []) (hl : xs.length < sizeLine) (hP : ∀ i bs, P i bs → bs.length ≤ i) (hg : ∀ acc, grd (dupd h p (.lst acc)))
    (hs : ∀ (i : Nat) (x : D) (bs : List β) (Y : RK) (N : DH → Prop), xs[i]? = some x → P i bs → (∀ b h', P (i + 1) (bs ++ [b]) → Sub (dupd h p (.lst (bs.map enc))) h' → Y (enc b) h') → (∀ h', P (i + 1) bs → Sub (dupd h p (.lst (bs.map enc))) h' → N h') →
      g x τ (dupd h p (.lst (bs.map enc))) fun τ2 h2 => tt τ2 h2 fun b h3 => Br b (te τ2 h3 Y) (N h3))
    (hd : ∀ bs, P xs.length bs → Q (.ref p) (dupd h p (.lst (bs.map enc)))) : dlcW g tt te grd p τ Q xs (dupd h p (.lst [])) := by
  have aux : ∀ (suf pre : List D) bs, xs = pre ++ suf → P pre.length bs → dlcW g tt te grd p τ Q suf (dupd h p (.lst (bs.map enc))) := by
    intro suf
    induction suf with
    | nil =>
      intro pre bs e i
      rw [List.append_nil] at e
      subst e
      exact ⟨hg _, hd _ i⟩
    | cons x suf ih =>
      intro pre bs e i
      refine ⟨hg _, ?_⟩
      refine hs pre.length x bs (fun y h4 => ∃ acc h5, h4 p = some (.lst acc) ∧ acc.length < sizeLine ∧ Sub h5 (dupd h4 p (.lst (acc ++ [y]))) ∧ dlcW g tt te grd p τ Q suf h5) _ (by rw [e]; simp) i (fun b h' hb s => ?_) (fun h' hb s => ?_)
      · have hl2 : pre.length < xs.length := by rw [e]; simp
        have := hP _ _ i
        refine ⟨bs.map enc, dupd h p (.lst ((bs ++ [b]).map enc)), s p _ dupd_same, by rw [List.length_map]; omega, ?_, ih (pre ++ [x]) (bs ++ [b]) (by rw [e]; simp) (by simpa using hb)⟩
        intro a u ha
        by_cases z : a = p
        · subst z; rw [dupd_same] at ha ⊢; rw [← ha, List.map_append]; rfl
        · rw [dupd_ne z] at ha ⊢
          exact s a u (by rw [dupd_ne z]; exact ha)
      · exact ⟨_, s, ih (pre ++ [x]) bs (by rw [e]; simp) (by simpa using hb)⟩
  exact aux xs [] [] rfl h0
/-- what is drawn -/
theorem dlcW_draw {β : Type} {g : RG} {tt : RT} {te : RE} {grd : DH → Prop} {p : Addr} {τ : DSt} {Q : RK} {h : DH} {n : Nat} (enc : β → D) (P : β → Prop) (hl : n < sizeLine) (hg : ∀ acc, grd (dupd h p (.lst acc)))
    (hs : ∀ (i : Nat) (bs : List β) (Y : RK) (N : DH → Prop), i < n → (∀ b h', P b → Sub (dupd h p (.lst (bs.map enc))) h' → Y (enc b) h') →
      g (.int (i : Int)) τ (dupd h p (.lst (bs.map enc))) fun τ2 h2 => tt τ2 h2 fun b h3 => Br b (te τ2 h3 Y) (N h3))
    (hd : ∀ bs : List β, bs.length = n → (∀ b ∈ bs, P b) → Q (.ref p) (dupd h p (.lst (bs.map enc)))) : dlcW g tt te grd p τ Q (rngD 0 n) (dupd h p (.lst [])) := by
  refine dlcW_st enc (fun i bs => bs.length = i ∧ ∀ b ∈ bs, P b) ⟨rfl, by simp⟩ (by rw [rngD_len]; exact hl) (fun i bs h => Nat.le_of_eq h.1) hg (fun i x bs Y N hx ⟨h1, h2⟩ hY hN => ?_) (fun bs h => hd bs (by rw [rngD_len] at h; exact h.1) h.2)
  have hlt : i < n := by have := lt_some hx; rw [rngD_len] at this; exact this
  rw [rngD_get hlt, Int.zero_add] at hx
  cases hx
  exact hs i bs Y N hlt fun b h' hb s => hY b h' ⟨by simp [h1], fun c hc => by rcases List.mem_append.mp hc with hc | hc; exact h2 c hc; rw [List.mem_singleton.mp hc]; exact hb⟩ s
/-- what hangs on the item alone -/
theorem dlcW_map {α β : Type} {g : RG} {tt : RT} {te : RE} {grd : DH → Prop} {p : Addr} {τ : DSt} {Q : RK} {h : DH} {inj : α → D} {as : List α} (enc : β → D) (f : α → Option β) (hl : as.length < sizeLine) (hg : ∀ acc, grd (dupd h p (.lst acc)))
    (hs : ∀ (i : Nat) (a : α) (acc : List D) (Y : RK) (N : DH → Prop), as[i]? = some a → (∀ b h', f a = some b → Sub (dupd h p (.lst acc)) h' → Y (enc b) h') → (∀ h', f a = none → Sub (dupd h p (.lst acc)) h' → N h') →
      g (inj a) τ (dupd h p (.lst acc)) fun τ2 h2 => tt τ2 h2 fun b h3 => Br b (te τ2 h3 Y) (N h3))
    (hd : Q (.ref p) (dupd h p (.lst ((as.filterMap f).map enc)))) : dlcW g tt te grd p τ Q (as.map inj) (dupd h p (.lst [])) := by
  refine dlcW_st enc (fun i bs => bs = (as.take i).filterMap f) (by simp) (by simpa using hl) (fun i bs h => by rw [h]; exact Nat.le_trans (List.length_filterMap_le _ _) (List.length_take_le _ _)) hg (fun i x bs Y N hx hb hY hN => ?_) (fun bs h => by rw [h, List.length_map, List.take_length]; exact hd)
  rw [List.getElem?_map] at hx
  cases ha : as[i]? with
  | none => rw [ha] at hx; cases hx
  | some a =>
    rw [ha] at hx; cases hx
    have e : as.take (i + 1) = as.take i ++ [a] := by rw [List.take_add_one, ha]; rfl
    refine hs i a _ Y N ha (fun b h' hf s => hY b h' ?_ s) (fun h' hf s => hN h' ?_ s)
    · rw [e, List.filterMap_append, hb]; simp [hf]
    · rw [e, List.filterMap_append, hb]; simp [hf]
theorem dlcW_rng {β : Type} {g : RG} {tt : RT} {te : RE} {grd : DH → Prop} {p : Addr} {τ : DSt} {Q : RK} {h : DH} {lo : Int} {n : Nat} (enc : β → D) (f : Nat → Option β) (hl : n < sizeLine) (hg : ∀ acc, grd (dupd h p (.lst acc)))
    (hs : ∀ (i : Nat) (acc : List D) (Y : RK) (N : DH → Prop), i < n → (∀ b h', f i = some b → Sub (dupd h p (.lst acc)) h' → Y (enc b) h') → (∀ h', f i = none → Sub (dupd h p (.lst acc)) h' → N h') →
      g (.int (lo + (i : Int))) τ (dupd h p (.lst acc)) fun τ2 h2 => tt τ2 h2 fun b h3 => Br b (te τ2 h3 Y) (N h3))
    (hd : Q (.ref p) (dupd h p (.lst (((List.range n).filterMap f).map enc)))) : dlcW g tt te grd p τ Q (rngD lo n) (dupd h p (.lst [])) :=
  dlcW_map (as := List.range n) (inj := fun (i : Nat) => D.int (lo + (i : Int))) enc f (by simpa using hl) hg (fun i a acc Y N ha hY hN => by
    have hlt : i < n := by have := lt_some ha; simpa using this
    rw [List.getElem?_range hlt] at ha
    cases ha
    exact hs i acc Y N hlt hY hN) hd
theorem dlcW_rng0 {β : Type} {g : RG} {tt : RT} {te : RE} {grd : DH → Prop} {p : Addr} {τ : DSt} {Q : RK} {h : DH} {n : Nat} (enc : β → D) (f : Nat → Option β) (hl : n < sizeLine) (hg : ∀ acc, grd (dupd h p (.lst acc)))
    (hs : ∀ (i : Nat) (acc : List D) (Y : RK) (N : DH → Prop), i < n → (∀ b h', f i = some b → Sub (dupd h p (.lst acc)) h' → Y (enc b) h') → (∀ h', f i = none → Sub (dupd h p (.lst acc)) h' → N h') →
      g (.int (i : Int)) τ (dupd h p (.lst acc)) fun τ2 h2 => tt τ2 h2 fun b h3 => Br b (te τ2 h3 Y) (N h3))
    (hd : Q (.ref p) (dupd h p (.lst (((List.range n).filterMap f).map enc)))) : dlcW g tt te grd p τ Q (rngD 0 n) (dupd h p (.lst [])) :=
  dlcW_rng enc f hl hg (fun i acc Y N hi hY hN => by rw [Int.zero_add]; exact hs i acc Y N hi hY hN) hd
end
end DL
namespace DL
open PySem PySem.Spec PyProof.Rows L2
/-- behind a statement that may go on in more than one way: what holds there, or each way by itself -/
structure RSeqC (ms : List Bool) (a b : RS) (D : DEnds) (τ : DSt) (h : DH) : Prop where
  ex : ∃ M : DSt → DH → Prop, a { D with nx := fun τ' h' => ∃ τ1 h1, Weak τ' τ1 h' h1 ∧ M τ1 h1 } τ h ∧ ∀ τ' h', M τ' h' → b D τ' h'
section
variable {S : Sta} {st : Stmt} {rest : List Stmt} {t u : RS}
theorem dss_consC (ms : List Bool) (h1 : DS S st t) (h2 : DSs S rest u) : DSs S (st :: rest) (RSeqC ms t u) := by
  refine ⟨fun D τ h q r v σ H DV hl rs kt pins s I => ?_⟩
  obtain ⟨M, q, qb⟩ := q
  refine (pss_cons (X := S.cx r) (psTop (st := st)) (pssTop (st := rest))).run pins s σ H DV I ?_
  exact h1.run _ τ h q r v σ H _ hl rs (kt.then fun τ1 h1 σ1 H1 e1 rs1 l1 ⟨τ2, h2', w, q1⟩ => h2.run D τ2 h2' (qb _ _ q1) r v σ1 H1 DV l1 (rs1.weak w) (kt.at e1))
end
/-- what holds there, by a state of one's own -/
theorem RSeqC.cut {σ : Type} {ms : List Bool} {a b : RS} {D : DEnds} {τ : DSt} {h : DH} (cv : σ → List (Nat × DL.D)) (he : σ → DH) (P : σ → Prop)
    (ha : ∀ N : DSt → DH → Prop, (∀ s τ' h', P s → Weak τ' (setsD (keepD τ ms) (cv s)) h' (he s) → N τ' h') → a { D with nx := N } τ h) (hb : ∀ s, P s → b D (setsD (keepD τ ms) (cv s)) (he s)) : RSeqC ms a b D τ h :=
  ⟨fun τ' h' => ∃ s, P s ∧ τ' = setsD (keepD τ ms) (cv s) ∧ h' = he s, ha _ fun s τ' h' p w => ⟨_, _, w, s, p, rfl, rfl⟩, fun τ' h' ⟨s, p, e1, e2⟩ => by subst e1; subst e2; exact hb s p⟩
/-- the state is as it was -/
theorem RSeqC.cut0 {ms : List Bool} {a b : RS} {D : DEnds} {τ : DSt} {h : DH}
    (ha : ∀ N : DSt → DH → Prop, (∀ τ' h', Weak τ' (keepD τ ms) h' h → N τ' h') → a { D with nx := N } τ h) (hb : b D (keepD τ ms) h) : RSeqC ms a b D τ h :=
  RSeqC.cut (σ := Unit) (fun _ => []) (fun _ => h) (fun _ => True) (fun N hN => ha N fun τ' h' w => hN () τ' h' trivial w) fun _ _ => hb
/-- each way by itself -/
theorem RSeqC.dup {ms : List Bool} {a b : RS} {D : DEnds} {τ : DSt} {h : DH} (ha : a { D with nx := fun τ' h' => ∃ τ1 h1, Weak τ' τ1 h' h1 ∧ b D τ1 h1 } τ h) : RSeqC ms a b D τ h := ⟨_, ha, fun _ _ q => q⟩
end DL
namespace DL
open PySem PySem.Spec PyProof.Rows L2 PySem.W
/-! ### rows of ints -/
abbrev rowD (r : List Int) : D := .tup (r.map D.int)
theorem toP_row (r : List Int) : toP (rowD r) = .tuple (r.map PyData.int) := by
  show PyData.tuple (toPs (r.map D.int)) = _
  rw [toPs_ints]
theorem map_int_inj : ∀ {r s : List Int}, r.map PyData.int = s.map PyData.int → r = s
  | [], [], _ => rfl
  | [], _ :: _, h => by simp at h
  | _ :: _, [], h => by simp at h
  | a :: r, b :: s, h => by
    simp only [List.map_cons, List.cons.injEq, PyData.int.injEq] at h
    rw [h.1, map_int_inj h.2]
theorem toP_row_inj {r s : List Int} (h : toP (rowD r) = toP (rowD s)) : r = s := by
  rw [toP_row, toP_row] at h
  have h := PyData.tuple.inj h
  exact map_int_inj h
theorem dataLt_row (r s : List Int) : dataLt (toP (rowD r)) (toP (rowD s)) = decide (r < s) := by
  rw [toP_row, toP_row, dataLt_tuple]
  exact dataLt_ints r s
theorem alikeAll_ints : ∀ (r s : List Int), alikeAll (r.map PyData.int) (s.map PyData.int) = true
  | [], [] => rfl
  | [], _ :: _ => rfl
  | _ :: _, [] => rfl
  | _ :: r, _ :: s => by simp only [List.map_cons, alikeAll, PySem.W.alike, Bool.true_and]; exact alikeAll_ints r s
theorem alike_row (r s : List Int) : PySem.W.alike (toP (rowD r)) (toP (rowD s)) = true := by
  rw [toP_row, toP_row]
  exact alikeAll_ints r s
theorem dat_row (n : Nat) (r : List Int) : dat (n + 1) (rowD r) = true := dat_tup (dats_ints _ _)
theorem dats_rows {n : Nat} (l : List (List Int)) : dats (n + 1) (l.map rowD) = true := dats_all fun d hd => by
  obtain ⟨r, _, rfl⟩ := List.mem_map.mp hd
  exact dat_row n r
theorem alike_rows (l : List (List Int)) : AlikeAll (toPs (l.map rowD)) := by
  rw [toPs_map, List.map_map]
  constructor
  · intro x hx y hy
    obtain ⟨a, _, rfl⟩ := List.mem_map.mp hx
    obtain ⟨b, _, rfl⟩ := List.mem_map.mp hy
    exact alike_row a b
  · intro x hx
    obtain ⟨a, _, rfl⟩ := List.mem_map.mp hx
    rw [show ((toP ∘ rowD) a) = toP (rowD a) from rfl, toP_row]
    intro z; cases z
/-- order by rows, total -/
theorem row_total {r s : List Int} (h : ¬ r < s) : s ≤ r := List.not_lt.mp h
theorem foldl_minR (f : List Int → PyData) (hf : ∀ r s, dataLt (f r) (f s) = decide (r < s)) : ∀ (l : List (List Int)) (r : List Int), ∃ m ∈ r :: l, (l.map f).foldl (fun a y => if dataLt y a then y else a) (f r) = f m ∧ ∀ s ∈ r :: l, ¬ s < m
  | [], r => ⟨r, by simp, rfl, fun s hs => by rw [List.mem_singleton.mp hs]; exact List.lt_irrefl _⟩
  | a :: l, r => by
    simp only [List.map_cons, List.foldl_cons, hf]
    by_cases c : a < r
    · rw [if_pos (decide_eq_true c)]
      obtain ⟨m, hm, e, h⟩ := foldl_minR f hf l a
      refine ⟨m, by simp at hm ⊢; exact .inr hm, e, fun s hs => ?_⟩
      rcases List.mem_cons.mp hs with rfl | hs
      · intro z
        exact h a (by simp) (List.lt_trans c z)
      · exact h s hs
    · rw [if_neg (fun z => c (of_decide_eq_true z))]
      obtain ⟨m, hm, e, h⟩ := foldl_minR f hf l r
      refine ⟨m, by simp at hm ⊢; rcases hm with hm | hm; exact .inl hm; exact .inr (.inr hm), e, fun s hs => ?_⟩
      rcases List.mem_cons.mp hs with rfl | hs
      · exact h s (by simp)
      · rcases List.mem_cons.mp hs with rfl | hs
        · intro z
          have hr := h r (by simp)
          exact hr (Std.lt_of_le_of_lt (row_total c) z)
        · exact h s (by simp [hs])
theorem foldl_maxR (f : List Int → PyData) (hf : ∀ r s, dataLt (f r) (f s) = decide (r < s)) : ∀ (l : List (List Int)) (r : List Int), ∃ m ∈ r :: l, (l.map f).foldl (fun a y => if dataLt a y then y else a) (f r) = f m ∧ ∀ s ∈ r :: l, ¬ m < s
  | [], r => ⟨r, by simp, rfl, fun s hs => by rw [List.mem_singleton.mp hs]; exact List.lt_irrefl _⟩
  | a :: l, r => by
    simp only [List.map_cons, List.foldl_cons, hf]
    by_cases c : r < a
    · rw [if_pos (decide_eq_true c)]
      obtain ⟨m, hm, e, h⟩ := foldl_maxR f hf l a
      refine ⟨m, by simp at hm ⊢; exact .inr hm, e, fun s hs => ?_⟩
      rcases List.mem_cons.mp hs with rfl | hs
      · intro z
        exact h a (by simp) (List.lt_trans z c)
      · exact h s hs
    · rw [if_neg (fun z => c (of_decide_eq_true z))]
      obtain ⟨m, hm, e, h⟩ := foldl_maxR f hf l r
      refine ⟨m, by simp at hm ⊢; rcases hm with hm | hm; exact .inl hm; exact .inr (.inr hm), e, fun s hs => ?_⟩
      rcases List.mem_cons.mp hs with rfl | hs
      · exact h s (by simp)
      · rcases List.mem_cons.mp hs with rfl | hs
        · intro z
          have hr := h r (by simp)
          exact hr (Std.lt_of_lt_of_le z (row_total c))
        · exact h s (by simp [hs])
theorem BestS.minR {l : List (List Int)} {h : DH} {Q : RK} (h0 : l ≠ []) (q : ∀ m ∈ l, (∀ s ∈ l, ¬ s < m) → Q (rowD m) h) : BestS minD (l.map rowD) h Q := by
  cases l with
  | nil => exact absurd rfl h0
  | cons r l =>
    refine ⟨_, _, rfl, ⟨dats_rows _, alike_rows _⟩, fun d hd e => ?_⟩
    obtain ⟨m, hm, rfl⟩ := List.mem_map.mp hd
    obtain ⟨m', hm', e2, hle⟩ := foldl_minR (fun r => toP (rowD r)) dataLt_row l r
    have e3 : toP (rowD m) = toP (rowD m') := by
      rw [e, ← e2]; unfold minD; rw [toPs_map, List.map_map]; rfl
    rw [toP_row_inj e3]
    exact q m' hm' hle
theorem BestS.maxR {l : List (List Int)} {h : DH} {Q : RK} (h0 : l ≠ []) (q : ∀ m ∈ l, (∀ s ∈ l, ¬ m < s) → Q (rowD m) h) : BestS maxD (l.map rowD) h Q := by
  cases l with
  | nil => exact absurd rfl h0
  | cons r l =>
    refine ⟨_, _, rfl, ⟨dats_rows _, alike_rows _⟩, fun d hd e => ?_⟩
    obtain ⟨m, hm, rfl⟩ := List.mem_map.mp hd
    obtain ⟨m', hm', e2, hle⟩ := foldl_maxR (fun r => toP (rowD r)) dataLt_row l r
    have e3 : toP (rowD m) = toP (rowD m') := by
      rw [e, ← e2]; unfold maxD; rw [toPs_map, List.map_map]; rfl
    rw [toP_row_inj e3]
    exact q m' hm' hle
theorem BestL.minR {a : Addr} {l : List (List Int)} {h : DH} {Q : RK} (ha : h a = some (.lst (l.map rowD))) (h0 : l ≠ []) (q : ∀ m ∈ l, (∀ s ∈ l, ¬ s < m) → Q (rowD m) h) : BestL minD a h Q := ⟨_, ha, .minR h0 q⟩
theorem BestL.maxR {a : Addr} {l : List (List Int)} {h : DH} {Q : RK} (ha : h a = some (.lst (l.map rowD))) (h0 : l ≠ []) (q : ∀ m ∈ l, (∀ s ∈ l, ¬ m < s) → Q (rowD m) h) : BestL maxD a h Q := ⟨_, ha, .maxR h0 q⟩
/-- sorted: the rows, in order -/
theorem SortL.rows {a : Addr} {l : List (List Int)} {h : DH} {Q : RK} (ha : h a = some (.lst (l.map rowD))) (hn : ∀ r ∈ l, r ≠ []) (q : ∀ (l' : List (List Int)) (p : Addr), l'.Perm l → l'.Pairwise (fun r s => ¬ s < r) → h p = none → Q (.ref p) (dupd h p (.lst (l'.map rowD)))) : SortL a h Q := by
  refine SortL.data ha (dats_rows _) ?_ ?_ fun p hp => ?_
  · intro x hx y hy
    exact (alike_rows l).1 x hx y hy
  · refine .inl fun d hd => ?_
    rw [toPs_map, List.map_map] at hd
    obtain ⟨r, hr, rfl⟩ := List.mem_map.mp hd
    cases r with
    | nil => exact absurd rfl (hn _ hr)
    | cons i r => exact ⟨.int i, r.map .int, by show toP (rowD (i :: r)) = _; rw [toP_row]; rfl⟩
  · have e : (l.map rowD).mergeSort dLe = (l.mergeSort fun r s => !decide (s < r)).map rowD := by
      rw [← List.map_mergeSort (r := fun r s : List Int => !decide (s < r)) (s := dLe) (f := rowD) (l := l)]
      intro r _ s _
      show _ = (!dataLt (toP (rowD s)) (toP (rowD r)))
      rw [dataLt_row]
    rw [e]
    refine q _ p (List.mergeSort_perm _ _) ?_ hp
    refine (List.pairwise_mergeSort (le := fun r s : List Int => !decide (s < r)) ?_ ?_ l).imp ?_
    · intro a b c h1 h2
      simp only [Bool.not_eq_true', decide_eq_false_iff_not] at h1 h2 ⊢
      exact fun z => h2 (Std.lt_of_lt_of_le z (row_total h1))
    · intro a b
      by_cases c : b < a
      · have : ¬ a < b := fun z => List.lt_irrefl _ (List.lt_trans c z)
        simp [this]
      · simp [c]
    · intro r s h1
      simpa using h1
/-- .. and it is the only one -/
theorem rows_ext : ∀ {l l' : List (List Int)}, l.Pairwise (fun r s => ¬ s < r) → l'.Pairwise (fun r s => ¬ s < r) → l.Perm l' → l = l'
  | [], l', _, _, p => by rw [p.nil_eq]
  | a :: l, [], _, _, p => absurd p.length_eq (by simp)
  | a :: l, b :: l', h1, h2, p => by
    obtain ⟨a1, a2⟩ := List.pairwise_cons.mp h1
    obtain ⟨b1, b2⟩ := List.pairwise_cons.mp h2
    have e : a = b := by
      have ha : a ∈ b :: l' := p.subset (by simp)
      have hb : b ∈ a :: l := p.symm.subset (by simp)
      rcases List.mem_cons.mp ha with e | ha
      · exact e
      · rcases List.mem_cons.mp hb with e | hb
        · exact e.symm
        · have x1 := a1 b hb
          have x2 := b1 a ha
          exact Std.le_antisymm (row_total x1) (row_total x2)
    subst e
    rw [rows_ext a2 b2 (List.Perm.cons_inv p)]
theorem outE {K : PySem.W.Frag} {Q : RK} {d d' : D} {h h' : DH} (q : Q d h) (s : Sub h h') (e : d = d') : Out K Q d' h' := by subst e; exact out q s
end DL
namespace DL
open PySem PySem.Spec PyProof.Rows L2
/-- what is told of the heap may be told otherwise behind a statement -/
structure RSeqE (K : PySem.W.Frag) (a b : RS) (D : DEnds) (τ : DSt) (h : DH) : Prop where
  ex : a { D with nx := fun τ' h' => ∃ h1, Ent K h' h1 ∧ b D τ' h1 } τ h
theorem RelS.ent {K : PySem.W.Frag} {h h1 : DH} {τ : DSt} {σ : L2.St} {H : Hp} (r : RelS K h τ σ H) (e : Ent K h h1) : RelS K h1 τ σ H := ⟨r.sl, e _ r.ob⟩
section
variable {S : Sta} {st : Stmt} {rest : List Stmt} {t u : RS}
theorem dss_consE (h1 : DS S st t) (h2 : DSs S rest u) : DSs S (st :: rest) (RSeqE S.K t u) := by
  refine ⟨fun D τ h q r v σ H DV hl rs kt pins s I => ?_⟩
  obtain ⟨q⟩ := q
  refine (pss_cons (X := S.cx r) (psTop (st := st)) (pssTop (st := rest))).run pins s σ H DV I ?_
  exact h1.run _ τ h q r v σ H _ hl rs (kt.then fun τ1 h1 σ1 H1 e1 rs1 l1 ⟨h2', en, q1⟩ => h2.run D τ1 h2' q1 r v σ1 H1 DV l1 (rs1.ent en) (kt.at e1))
end
theorem law_start2 {K : PySem.W.Frag} {h : DH} {dl p : Addr} {ms : List Int} (hdl : h dl = none) (hp : dupd h dl (.lst (ms.map D.int)) p = none) {P : DH → Prop} (k : ∀ h0, BoxAt h0 p → Sub h h0 → P h0) :
    ∃ h1, Ent K (dupd (dupd h dl (.lst (ms.map D.int))) p (.lst [.ref dl, .int 0])) h1 ∧ P h1 := by
  obtain ⟨hne, hp0⟩ := dupd_none.mp hp
  have hpd : dl ≠ p := Ne.symm hne
  refine ⟨dupd (dupd h p (.box dl)) dl .hid, Ent.box (h0 := h) (p := p) (dl := dl) (t := 0) (ns := ms) (ds := []) dupd_same ?_ hpd (fun a u h1 h2 e' => ?_), k _ (.mk hpd) (Sub.up2 hdl (Sub.up2 hp0 (.refl _)))⟩
  · rw [dupd_ne hpd, dupd_same]
  · rw [dupd_ne h1, dupd_ne h2]; exact e'
end DL
namespace DL
open PySem PySem.Spec PyProof.Rows L2
section
variable {S : Sta}
/-- j is the first place of x -/
def IsIx (ds : List D) (x : D) (j : Nat) : Prop := (∃ z, ds[j]? = some z ∧ deq z x = true) ∧ ∀ m z', m < j → ds[m]? = some z' → deq z' x = false
@[reducible] def rIndex : D → List D → DH → RK → Prop
  | .ref p, [x], h, Q => ∃ ds, h p = some (.lst ds) ∧ (dat 50 x = true ∧ dats 50 ds = true) ∧ ∃ j : Nat, IsIx ds x j ∧ Q (.int (j : Int)) h
  | _, _, _, _ => False
theorem md_index : MtD S "list" "list.index" rIndex := by
  refine fun rst vw => ⟨_, mt_indexD (X := S.cx rst) (by have := vw_units vw; show rst.A.units + 65 < cLine; omega), ?_⟩
  intro d as h Q q x vs τ σ H QV rs rx ra k
  unfold rIndex at q
  split at q
  · obtain ⟨ds, hp, ⟨hx, hds⟩, j, ⟨⟨z, hz, hze⟩, hno⟩, q⟩ := q
    cases rx
    obtain ⟨v, rfl, rv⟩ := reps1 ra
    obtain ⟨ws, f, rr⟩ := RelH.lst rs.ob hp
    obtain ⟨a1, a2⟩ := toPs_lay 50 ds hds
    refine ⟨_, v, _, toPs ds, j, toP z, rfl, rfl, .lst (SqL.of f) (rr.dp hds), rv.dp hx, ?_, shaped_of (by decide) hx, ?_, hze, fun m z' hm hz' => ?_, k.val rs (.int _) q⟩
    · unfold SeqAt.shaped; simp only [PyData.canLay0, a1, Bool.true_and, decide_eq_true_eq]; show PyData.depthAll (toPs ds) + 1 ≤ 64; omega
    · rw [toPs_map, List.getElem?_map, hz]; rfl
    · rw [toPs_map, List.getElem?_map] at hz'
      cases hd : ds[m]? with
      | none => rw [hd] at hz'; cases hz'
      | some d0 => rw [hd] at hz'; cases hz'; exact hno m d0 hm hd
  · exact q.elim
theorem IsIx.at0 {ds : List D} {x z : D} (h : ds[0]? = some z) (e : deq z x = true) : IsIx ds x 0 := ⟨⟨z, h, e⟩, fun m z' hm => absurd hm (by omega)⟩
theorem IsIx.next {d x : D} {ds : List D} {j : Nat} (e : deq d x = false) (h : IsIx ds x j) : IsIx (d :: ds) x (j + 1) := by
  obtain ⟨⟨z, h1, h2⟩, h3⟩ := h
  refine ⟨⟨z, by simpa using h1, h2⟩, fun m z' hm hz => ?_⟩
  cases m with
  | zero => simp at hz; subst hz; exact e
  | succ m => exact h3 m z' (by omega) (by simpa using hz)
end
theorem brT {b : Bool} {A B : Prop} (e : b = true) (a : A) : Br b A B := ⟨fun _ => a, fun z => absurd (e.symm.trans z) (by decide)⟩
theorem brF {b : Bool} {A B : Prop} (e : b = false) (a : B) : Br b A B := ⟨fun z => absurd (e.symm.trans z) (by decide), fun _ => a⟩
/-- all but p stays -/
def SubX (p : Addr) (h h' : DH) : Prop := ∀ a u, a ≠ p → h a = some u → h' a = some u
theorem SubX.refl (p : Addr) (h : DH) : SubX p h h := fun _ _ _ e => e
theorem SubX.same {p : Addr} {h h' : DH} {o : DO} (s : SubX p h h') : SubX p h (dupd h' p o) := fun a u n e => by rw [dupd_ne n]; exact s a u n e
theorem SubX.new {p q : Addr} {h h' : DH} {o : DO} (s : SubX p h h') (n : h q = none) : SubX p h (dupd h' q o) := fun a u n' e => by rw [dupd_ne (ne_sn e n)]; exact s a u n' e
theorem Sub.at {p : Addr} {h h' : DH} {o : DO} (s : SubX p h h') (e : h' p = some o) : Sub (dupd h p o) h' := .put (fun a n u q => s a u n q) e
end DL
namespace DL
open PySem PySem.Spec PyProof.Rows L2
section
variable {S : Sta} {pos : Pos} {tg iter tg1 iter1 elt : Expr} {te : RE}
/-! ### comprehensions with two fors -/
def dlcI (g1 : RG) (tt1 : RT) (te : RE) (grd1 : DH → Prop) (p : Addr) (τ : DSt) (Nx : DH → Prop) : List D → DH → Prop
  | [], h => grd1 h ∧ Nx h
  | x :: xs, h => grd1 h ∧ g1 x τ h fun τ2 h2 => tt1 τ2 h2 fun b h3 =>
      Br b (te τ2 h3 fun y h4 => ∃ acc h5, h4 p = some (.lst acc) ∧ acc.length < sizeLine ∧ Sub h5 (dupd h4 p (.lst (acc ++ [y]))) ∧ dlcI g1 tt1 te grd1 p τ Nx xs h5) (∃ h5, Sub h5 h3 ∧ dlcI g1 tt1 te grd1 p τ Nx xs h5)
def dlc2 (g : RG) (tt : RT) (ti1 : RI) (g1 : RG) (tt1 : RT) (te : RE) (grd : DH → Prop) (p : Addr) (τ : DSt) (vs1 : List Nat) (Q : RK) : List D → DH → Prop
  | [], h => grd h ∧ Q (.ref p) h
  | x :: xs, h => grd h ∧ g x τ h fun τ2 h2 => tt τ2 h2 fun b h3 =>
      Br b (ti1 τ2 h3 fun ds1 grd1 h4 => dlcI g1 tt1 te grd1 p (wipeD τ2 vs1) (fun h5 => ∃ h6, Sub h6 h5 ∧ dlc2 g tt ti1 g1 tt1 te grd p τ vs1 Q xs h6) ds1 h4) (∃ h5, Sub h5 h3 ∧ dlc2 g tt ti1 g1 tt1 te grd p τ vs1 Q xs h5)
@[reducible] def rLc2 (ti : RI) (g : RG) (tt : RT) (ti1 : RI) (g1 : RG) (tt1 : RT) (te : RE) (vs vs1 : List Nat) : RE := fun τ h Q => ti τ h fun ds grd h1 => ∀ p, h1 p = none → dlc2 g tt ti1 g1 tt1 te grd p (wipeD τ vs) vs1 Q ds (dupd h1 p (.lst []))
theorem dlcI_grd {g1 : RG} {tt1 : RT} {te : RE} {grd1 : DH → Prop} {p : Addr} {τ : DSt} {Nx : DH → Prop} {xs : List D} {h : DH} (q : dlcI g1 tt1 te grd1 p τ Nx xs h) : grd1 h := by
  cases xs with
  | nil => exact q.1
  | cons _ _ => exact q.1
theorem dlc2_grd {g : RG} {tt : RT} {ti1 : RI} {g1 : RG} {tt1 : RT} {te : RE} {grd : DH → Prop} {p : Addr} {τ : DSt} {vs1 : List Nat} {Q : RK} {xs : List D} {h : DH} (q : dlc2 g tt ti1 g1 tt1 te grd p τ vs1 Q xs h) : grd h := by
  cases xs with
  | nil => exact q.1
  | cons _ _ => exact q.1
abbrev vG (S : Sta) (scope : Scope) (tg : Expr) : TG := fun v' σ H Q => ∀ r', Vw (S.blk scope) r' → gTop ((S.blk scope).cx r') tg v' σ H Q
abbrev vT (S : Sta) (scope : Scope) (ifs : List Expr) : TT := fun σ H Q => ∀ r', Vw (S.blk scope) r' → ∀ pins s, Inv ((S.blk scope).cx r') pins σ H s → wpAny (model S.P S.w) r'.A (forIn ifs true fun c r1 => if r1 = true then do let ok ← isTrue c r'.env (eval c r'.env); pure (ForInStep.yield ok) else pure (ForInStep.yield r1)) (TP ((S.blk scope).cx r') pins σ Q) (fun _ _ => False) s
abbrev vE (S : Sta) (scope : Scope) (elt : Expr) : TE := fun σ H Q => ∀ r', Vw (S.blk scope) r' → tTop ((S.blk scope).cx r') elt σ H Q
abbrev vI (S : Sta) (scope : Scope) (tg iter : Expr) : TI := fun σ H R => ∀ r', Vw (S.blk scope) r' → iTop ((S.blk scope).cx r') tg iter σ H R
theorem lc2_reading {ifs ifs1 : List Expr} {scope : Scope} {own : List (Str × Nat)} {ws ws1 vs1 : List Nat} {ti ti1 : RI} {g g1 : RG} {tt tt1 : RT} (hi : DI S tg iter ti) (hg : DG (S.blk scope) tg ws g) (ht : DTs (S.blk scope) ifs tt)
    (hi1 : DI (S.blk scope) tg1 iter1 ti1) (hg1 : DG (S.blk scope) tg1 ws1 g1) (ht1 : DTs (S.blk scope) ifs1 tt1) (he : DE (S.blk scope) elt te)
    (hw : ∀ j, j ∈ ws → j ∈ own.map (·.2)) (hw1 : ∀ j, j ∈ ws1 → j ∈ vs1) {τ : DSt} {h : DH} {Q : RK} (q : rLc2 ti g tt ti1 g1 tt1 te (own.map (·.2)) vs1 τ h Q) {r : Rest} (v : Vw S r) {σ : L2.St} {H : Hp} {QV : VK} (hl : σ.length = S.N.length) (rs : RelS S.K h τ σ H) (kt : Kont S.K H τ σ Q QV) :
    tLc2 (iTop (S.cx r) tg iter) (vG S scope tg) (vT S scope ifs) (vI S scope tg1 iter1) (vG S scope tg1) (vT S scope ifs1) (vE S scope elt) (own.map (·.2)) vs1 σ H QV := by
  refine hi.run τ h _ q r v σ H _ rs fun ds grd J h1 H1 e1 rs1 wk q1 => fun D nD => ?_
  have q1 := q1 D (rs1.ob.free nD)
  have eD : Ext H1 (upd H1 D (.lst [])) := .new nD
  have rD : RelS S.K (dupd h1 D (.lst [])) (wipeD τ (own.map (·.2))) (wipe σ (own.map (·.2))) (upd H1 D (.lst [])) := (rs1.to eD (RelH.newLst rs1.ob .nil nD)).wipe _
  refine ⟨fun i m H2 => m = ds.length - i ∧ i ≤ ds.length ∧ ∃ h2, Ext H1 H2 ∧ RelS S.K h2 (wipeD τ (own.map (·.2))) (wipe σ (own.map (·.2))) H2 ∧ dlc2 g tt ti1 g1 tt1 te grd D (wipeD τ (own.map (·.2))) vs1 Q (ds.drop i) h2, ⟨ds.length, by simp, Nat.zero_le _, _, eD, rD, by simpa using q1⟩, ?_⟩
  rintro i m H2 ⟨rfl, hi', h2, e2, rs2, q2⟩
  have hgr := dlc2_grd q2
  by_cases hlt : i < ds.length
  · rw [List.drop_eq_getElem_cons hlt] at q2
    refine .inr ⟨wk.go i h2 H2 e2 rs2.ob hgr hlt, fun H3 => ∃ h3, Ext H1 H3 ∧ RelS S.K h3 (wipeD τ (own.map (·.2))) (wipe σ (own.map (·.2))) H3 ∧ dlc2 g tt ti1 g1 tt1 te grd D (wipeD τ (own.map (·.2))) vs1 Q (ds.drop (i + 1)) h3, ?_, ?_⟩
    · rintro H3 ⟨h3, e3, rs3, q3⟩
      exact ⟨ds.length - (i + 1), by omega, rfl, hlt, h3, e3, rs3, q3⟩
    · intro x H3 hy r1 v1
      obtain ⟨e3, rh3, d, hd, rd⟩ := wk.yld i h2 H2 x H3 e2 rs2.ob hgr hlt hy
      rw [List.getElem?_eq_getElem hlt] at hd
      cases hd
      have rs3 := rs2.to e3 rh3
      refine hg.run _ _ h2 _ q2.2 r1 v1 x _ H3 _ (by rw [wipe_length]; exact hl) rs3 rd fun τ4 h4 σ4 H4 e4 rs4 l4 t4 q4 => ⟨?_, fun r2 v2 => ?_⟩
      · refine wipe_same (l4.trans (wipe_length _ _)) fun j hj => ?_
        rw [t4 j fun z => hj (hw j z), wipe_get hj]
      · refine ht.run τ4 h4 _ q4 r2 v2 σ4 H4 _ rs4 fun b h5 H5 e5 rs5 q5 => ?_
        have e25 := ((e2.trans e3).trans e4).trans e5
        have keep : ∀ (h6 : DH) (H6 : Hp), Ext H1 H6 → RelH S.K h6 H6 → RelS S.K h6 (wipeD τ (own.map (·.2))) (wipe σ (own.map (·.2))) H6 := fun h6 H6 e6 o6 => (rs1.to e6 o6).wipe _
        cases b with
        | true =>
          refine iteT fun r3 v3 => ?_
          refine hi1.run τ4 h5 _ (q5.1 rfl) r3 v3 σ4 H5 _ rs5 fun ds1 grd1 J1 h6 H6 e6 rs6 wk1 q6 => ?_
          refine ⟨fun j k H7 => k = ds1.length - j ∧ j ≤ ds1.length ∧ ∃ h7, Ext H6 H7 ∧ RelS S.K h7 (wipeD τ4 vs1) (wipe σ4 vs1) H7 ∧ dlcI g1 tt1 te grd1 D (wipeD τ4 vs1) (fun h5 => ∃ h6, Sub h6 h5 ∧ dlc2 g tt ti1 g1 tt1 te grd D (wipeD τ (own.map (·.2))) vs1 Q (ds.drop (i + 1)) h6) (ds1.drop j) h7, ⟨ds1.length, by simp, Nat.zero_le _, h6, .refl _, rs6.wipe _, by simpa using q6⟩, ?_⟩
          rintro j k H7 ⟨rfl, hj', h7, e7, rs7, q7⟩
          have hgr1 := dlcI_grd q7
          have e27 := (e25.trans e6).trans e7
          by_cases hlt1 : j < ds1.length
          · rw [List.drop_eq_getElem_cons hlt1] at q7
            refine .inr ⟨wk1.go j h7 H7 e7 rs7.ob hgr1 hlt1, fun H8 => ∃ h8, Ext H6 H8 ∧ RelS S.K h8 (wipeD τ4 vs1) (wipe σ4 vs1) H8 ∧ dlcI g1 tt1 te grd1 D (wipeD τ4 vs1) (fun h5 => ∃ h6, Sub h6 h5 ∧ dlc2 g tt ti1 g1 tt1 te grd D (wipeD τ (own.map (·.2))) vs1 Q (ds.drop (i + 1)) h6) (ds1.drop (j + 1)) h8, ?_, ?_⟩
            · rintro H8 ⟨h8, e8, rs8, q8⟩
              exact ⟨ds1.length - (j + 1), by omega, rfl, hlt1, h8, e8, rs8, q8⟩
            · intro x1 H8 hy1 r4 v4
              obtain ⟨e8, rh8, d1, hd1, rd1⟩ := wk1.yld j h7 H7 x1 H8 e7 rs7.ob hgr1 hlt1 hy1
              rw [List.getElem?_eq_getElem hlt1] at hd1
              cases hd1
              have rs8 := rs7.to e8 rh8
              have keep1 : ∀ (h9 : DH) (H9 : Hp), Ext H6 H9 → RelH S.K h9 H9 → RelS S.K h9 (wipeD τ4 vs1) (wipe σ4 vs1) H9 := fun h9 H9 e9 o9 => (rs6.to e9 o9).wipe _
              refine hg1.run _ _ h7 _ q7.2 r4 v4 x1 _ H8 _ (by rw [wipe_length, l4, wipe_length]; exact hl) rs8 rd1 fun τ9 h9 σ9 H9 e9 rs9 l9 t9 q9 => ⟨?_, fun r5 v5 => ?_⟩
              · refine wipe_same (l9.trans (wipe_length _ _)) fun j' hj'' => ?_
                rw [t9 j' fun z => hj'' (hw1 j' z), wipe_get hj'']
              · refine ht1.run τ9 h9 _ q9 r5 v5 σ9 H9 _ rs9 fun b1 ha Ha ea rsa qa => ?_
                have e6a := ((e7.trans e8).trans e9).trans ea
                cases b1 with
                | true =>
                  refine iteT fun r6 v6 => ?_
                  refine he.run τ9 ha _ (qa.1 rfl) r6 v6 σ9 Ha _ rsa fun dy y hb Hb eb rsb rpb qb => ?_
                  obtain ⟨acc, hc, hp, hz, hsc, qc⟩ := qb
                  obtain ⟨vs, f, rr⟩ := RelH.lst rsb.ob hp
                  refine ⟨vs, f, by rw [← rr.length]; exact hz, hc, (e6a.trans eb).trans (.lst f), keep1 _ _ ((e6a.trans eb).trans (.lst f)) ((RelH.setLst rsb.ob hp f (rr.append (.one rpb))).sub hsc), qc⟩
                | false =>
                  obtain ⟨hc, hsc, qc⟩ := qa.2 rfl
                  exact iteF ⟨hc, e6a, keep1 _ _ e6a (rsa.ob.sub hsc), qc⟩
          · obtain rfl : j = ds1.length := by omega
            rw [List.drop_length] at q7
            obtain ⟨_, h8, hs8, q8⟩ := q7
            exact .inl ⟨wk1.stop h7 H7 e7 rs7.ob hgr1, h8, e27, keep _ _ e27 (rs7.ob.sub hs8), q8⟩
        | false =>
          obtain ⟨h7, hs7, q7⟩ := q5.2 rfl
          exact iteF ⟨h7, e25, keep _ _ e25 (rs5.ob.sub hs7), q7⟩
  · obtain rfl : i = ds.length := by omega
    rw [List.drop_length] at q2
    refine .inl ⟨wk.stop h2 H2 e2 rs2.ob hgr, ?_⟩
    exact kt _ _ h2 H2 (e1.trans e2) (rs1.to e2 rs2.ob) (.ref D) q2.2
theorem de_lc2 {ifs ifs1 : List Expr} {scope : Scope} {own : List (Str × Nat)} {ws ws1 vs1 : List Nat} {ti ti1 : RI} {g g1 : RG} {tt tt1 : RT} (hi : DI S tg iter ti) (ok : blkC S.N S.sc scope own = true) (hg : DG (S.blk scope) tg ws g) (ht : DTs (S.blk scope) ifs tt)
    (hi1 : DI (S.blk scope) tg1 iter1 ti1) (hg1 : DG (S.blk scope) tg1 ws1 g1) (ht1 : DTs (S.blk scope) ifs1 tt1) (he : DE (S.blk scope) elt te) (hw : ∀ j, j ∈ ws → j ∈ own.map (·.2)) (hw1 : ∀ j, j ∈ ws1 → j ∈ vs1) (hv : ∀ i ∈ vs1, i ∈ own.map (·.2))
    (hs : ∀ env x, foldedSetIterable iter env x = pure x) (hs1 : ∀ env x, foldedSetIterable iter1 env x = pure x) : DE S (.ListComp elt [⟨tg, iter, ifs, 0⟩, ⟨tg1, iter1, ifs1, 0⟩] scope pos) (rLc2 ti g tt ti1 g1 tt1 te (own.map (·.2)) vs1) := by
  refine ⟨fun τ h Q q r v σ H QV rs kt pins s I => ?_⟩
  refine (pe_lc2 (X := S.cx r) (own := own) (wi1 := vI S scope tg1 iter1) (g := vG S scope tg) (g1 := vG S scope tg1) (tt := vT S scope ifs) (tt1 := vT S scope ifs1) (te := vE S scope elt) rfl v.nd piTop (by show BlkOk S.N r.env.scope scope own; rw [v.sc]; exact blkOk_by ok) hv ?_ ?_ ?_ ?_ ?_ ?_ (hs _) hs1).run pins s σ H QV I (lc2_reading hi hg ht hi1 hg1 ht1 he hw hw1 q v I.len rs kt)
  · exact fun s1 H1 C cl fp => ⟨fun pins s σ H w u Q I r1 h => h _ (vw_blk v s1 H1 C cl fp) pins s u I r1⟩
  · exact fun s1 H1 C cl fp => ⟨fun pins s σ H Q I h => h _ (vw_blk v s1 H1 C cl fp) pins s I⟩
  · exact fun s1 H1 C cl fp => ⟨fun pins s σ H R I h => h _ (vw_blk v s1 H1 C cl fp) pins s I⟩
  · exact fun s1 H1 C cl fp => ⟨fun pins s σ H w u Q I r1 h => h _ (vw_blk v s1 H1 C cl fp) pins s u I r1⟩
  · exact fun s1 H1 C cl fp => ⟨fun pins s σ H Q I h => h _ (vw_blk v s1 H1 C cl fp) pins s I⟩
  · exact fun s1 H1 C cl fp => ⟨fun pins s σ H Q I h => h _ (vw_blk v s1 H1 C cl fp) pins s I⟩
theorem ds_setLc2 {i : Nat} {y : Str} {py spos : Pos} {ifs ifs1 : List Expr} {scope : Scope} {own : List (Str × Nat)} {ws ws1 vs1 : List Nat} {ti ti1 : RI} {g g1 : RG} {tt tt1 : RT} (hy : S.N[i]? = some y) (hl : locI S.N S.sc (fun _ => false) i = true) (hln : (py.line == pos.line) = true) (hp : spos.line = pos.line ∨ True)
    (hsw : (scope.names.any fun (n, k) => n == y && (k == .local || k == .cell)) = false) (hk : S.sc.kind = .function) (hi : DI S tg iter ti) (ok : blkC S.N S.sc scope own = true) (hg : DG (S.blk scope) tg ws g) (ht : DTs (S.blk scope) ifs tt)
    (hi1 : DI (S.blk scope) tg1 iter1 ti1) (hg1 : DG (S.blk scope) tg1 ws1 g1) (ht1 : DTs (S.blk scope) ifs1 tt1) (he : DE (S.blk scope) elt te) (hw : ∀ j, j ∈ ws → j ∈ own.map (·.2)) (hw1 : ∀ j, j ∈ ws1 → j ∈ vs1) (hv : ∀ i ∈ vs1, i ∈ own.map (·.2))
    (hs : ∀ env x, foldedSetIterable iter env x = pure x) (hs1 : ∀ env x, foldedSetIterable iter1 env x = pure x) : DS S (.Assign [.Name y py] (.ListComp elt [⟨tg, iter, ifs, 0⟩, ⟨tg1, iter1, ifs1, 0⟩] scope pos) spos) (rAsg (rLc2 ti g tt ti1 g1 tt1 te (own.map (·.2)) vs1) (gNm i)) := by
  refine ⟨fun D τ h q r v σ H DV hlen rs kt pins s I => ?_⟩
  have ly : r.env.scope.names.lookup y = some .local := by rw [v.sc]; exact (locI_of hl hy).elim id fun z => by cases z.2
  refine (ps_setLc2 (X := S.cx r) (own := own) (wi1 := vI S scope tg1 iter1) (g := vG S scope tg) (g1 := vG S scope tg1) (tt := vT S scope ifs) (tt1 := vT S scope ifs1) (te := vE S scope elt) rfl v.nd hy ly (sw_true (by rw [v.sc]; exact hk) ly hln hsw) piTop (by show BlkOk S.N r.env.scope scope own; rw [v.sc]; exact blkOk_by ok) hv ?_ ?_ ?_ ?_ ?_ ?_ (hs _) hs1).run pins s σ H DV I
    (lc2_reading hi hg ht hi1 hg1 ht1 he hw hw1 q v hlen rs fun d w h1 H1 e1 rs1 rp1 q1 => kt.nx _ _ _ _ e1 (rs1.set (by rw [hlen]; exact (List.getElem?_eq_some_iff.mp hy).1) rp1) (by simpa using hlen) (by rw [← sto_eq]; exact q1))
  · exact fun s1 H1 C cl fp => ⟨fun pins s σ H w u Q I r1 h => h _ (vw_blk v s1 H1 C cl fp) pins s u I r1⟩
  · exact fun s1 H1 C cl fp => ⟨fun pins s σ H Q I h => h _ (vw_blk v s1 H1 C cl fp) pins s I⟩
  · exact fun s1 H1 C cl fp => ⟨fun pins s σ H R I h => h _ (vw_blk v s1 H1 C cl fp) pins s I⟩
  · exact fun s1 H1 C cl fp => ⟨fun pins s σ H w u Q I r1 h => h _ (vw_blk v s1 H1 C cl fp) pins s u I r1⟩
  · exact fun s1 H1 C cl fp => ⟨fun pins s σ H Q I h => h _ (vw_blk v s1 H1 C cl fp) pins s I⟩
  · exact fun s1 H1 C cl fp => ⟨fun pins s σ H Q I h => h _ (vw_blk v s1 H1 C cl fp) pins s I⟩
end
/-- the outer turns, by the items so far -/
theorem dlc2_st {β : Type} {g : RG} {tt : RT} {ti1 : RI} {g1 : RG} {tt1 : RT} {te : RE} {grd : DH → Prop} {p : Addr} {τ : DSt} {vs1 : List Nat} {Q : RK} {h : DH} {xs : List D} (enc : β → D) (P : Nat → List β → Prop) (h0 : P 0 []) (hg : ∀ acc, grd (dupd h p (.lst acc)))
    (hs : ∀ (i : Nat) (x : D) (bs : List β) (Nx : DH → Prop), xs[i]? = some x → P i bs → (∀ bs' h', P (i + 1) bs' → Sub (dupd h p (.lst (bs'.map enc))) h' → Nx h') →
      g x τ (dupd h p (.lst (bs.map enc))) fun τ2 h2 => tt τ2 h2 fun b h3 => Br b (ti1 τ2 h3 fun ds1 grd1 h4 => dlcI g1 tt1 te grd1 p (wipeD τ2 vs1) Nx ds1 h4) (Nx h3))
    (hd : ∀ bs, P xs.length bs → Q (.ref p) (dupd h p (.lst (bs.map enc)))) : dlc2 g tt ti1 g1 tt1 te grd p τ vs1 Q xs (dupd h p (.lst [])) := by
  have aux : ∀ (suf pre : List D) bs, xs = pre ++ suf → P pre.length bs → dlc2 g tt ti1 g1 tt1 te grd p τ vs1 Q suf (dupd h p (.lst (bs.map enc))) := by
    intro suf
    induction suf with
    | nil =>
      intro pre bs e i
      rw [List.append_nil] at e
      subst e
      exact ⟨hg _, hd _ i⟩
    | cons x suf ih =>
      intro pre bs e i
      refine ⟨hg _, ?_⟩
      exact hs pre.length x bs (fun h5 => ∃ h6, Sub h6 h5 ∧ dlc2 g tt ti1 g1 tt1 te grd p τ vs1 Q suf h6) (by rw [e]; simp) i fun bs' h' hb s => ⟨_, s, ih (pre ++ [x]) bs' (by rw [e]; simp) (by simpa using hb)⟩
  exact aux xs [] [] rfl h0
/-- the inner turns, by the items so far -/
theorem dlcI_st {β : Type} {g1 : RG} {tt1 : RT} {te : RE} {grd1 : DH → Prop} {p : Addr} {τ : DSt} {Nx : DH → Prop} {h : DH} {xs : List D} (enc : β → D) (P : Nat → List β → Prop) (bs0 : List β) (h0 : P 0 bs0) (hP : ∀ i bs, P i bs → bs.length < sizeLine) (hg : ∀ acc, grd1 (dupd h p (.lst acc)))
    (hs : ∀ (i : Nat) (x : D) (bs : List β) (Y : RK) (N : DH → Prop), xs[i]? = some x → P i bs → (∀ b h', P (i + 1) (bs ++ [b]) → Sub (dupd h p (.lst (bs.map enc))) h' → Y (enc b) h') → (∀ h', P (i + 1) bs → Sub (dupd h p (.lst (bs.map enc))) h' → N h') →
      g1 x τ (dupd h p (.lst (bs.map enc))) fun τ2 h2 => tt1 τ2 h2 fun b h3 => Br b (te τ2 h3 Y) (N h3))
    (hd : ∀ bs, P xs.length bs → Nx (dupd h p (.lst (bs.map enc)))) : dlcI g1 tt1 te grd1 p τ Nx xs (dupd h p (.lst (bs0.map enc))) := by
  have aux : ∀ (suf pre : List D) bs, xs = pre ++ suf → P pre.length bs → dlcI g1 tt1 te grd1 p τ Nx suf (dupd h p (.lst (bs.map enc))) := by
    intro suf
    induction suf with
    | nil =>
      intro pre bs e i
      rw [List.append_nil] at e
      subst e
      exact ⟨hg _, hd _ i⟩
    | cons x suf ih =>
      intro pre bs e i
      refine ⟨hg _, ?_⟩
      refine hs pre.length x bs (fun y h4 => ∃ acc h5, h4 p = some (.lst acc) ∧ acc.length < sizeLine ∧ Sub h5 (dupd h4 p (.lst (acc ++ [y]))) ∧ dlcI g1 tt1 te grd1 p τ Nx suf h5) _ (by rw [e]; simp) i (fun b h' hb s => ?_) (fun h' hb s => ?_)
      · refine ⟨bs.map enc, dupd h p (.lst ((bs ++ [b]).map enc)), s p _ dupd_same, by rw [List.length_map]; exact hP _ _ i, ?_, ih (pre ++ [x]) (bs ++ [b]) (by rw [e]; simp) (by simpa using hb)⟩
        intro a u ha
        by_cases z : a = p
        · subst z; rw [dupd_same] at ha ⊢; rw [← ha, List.map_append]; rfl
        · rw [dupd_ne z] at ha ⊢
          exact s a u (by rw [dupd_ne z]; exact ha)
      · exact ⟨_, s, ih (pre ++ [x]) bs (by rw [e]; simp) (by simpa using hb)⟩
  exact aux xs [] bs0 rfl h0
/-- the inner turns: what hangs on the item alone -/
theorem dlcI_map {α β : Type} {g1 : RG} {tt1 : RT} {te : RE} {grd1 : DH → Prop} {p : Addr} {τ : DSt} {Nx : DH → Prop} {h : DH} {inj : α → D} {as : List α} (enc : β → D) (f : α → Option β) (bs0 : List β) (hl : bs0.length + as.length < sizeLine) (hg : ∀ acc, grd1 (dupd h p (.lst acc)))
    (hs : ∀ (i : Nat) (a : α) (acc : List D) (Y : RK) (N : DH → Prop), as[i]? = some a → (∀ b h', f a = some b → Sub (dupd h p (.lst acc)) h' → Y (enc b) h') → (∀ h', f a = none → Sub (dupd h p (.lst acc)) h' → N h') →
      g1 (inj a) τ (dupd h p (.lst acc)) fun τ2 h2 => tt1 τ2 h2 fun b h3 => Br b (te τ2 h3 Y) (N h3))
    (hd : Nx (dupd h p (.lst ((bs0 ++ as.filterMap f).map enc)))) : dlcI g1 tt1 te grd1 p τ Nx (as.map inj) (dupd h p (.lst (bs0.map enc))) := by
  refine dlcI_st enc (fun i bs => bs = bs0 ++ (as.take i).filterMap f) bs0 (by simp) (fun i bs h => ?_) hg (fun i x bs Y N hx hb hY hN => ?_) (fun bs h => by rw [h, List.length_map, List.take_length]; exact hd)
  · rw [h, List.length_append]
    have h1 := List.length_filterMap_le f (as.take i)
    have h2 : (as.take i).length ≤ as.length := by rw [List.length_take]; omega
    omega
  · rw [List.getElem?_map] at hx
    cases ha : as[i]? with
    | none => rw [ha] at hx; cases hx
    | some a =>
      rw [ha] at hx; cases hx
      have e : as.take (i + 1) = as.take i ++ [a] := by rw [List.take_add_one, ha]; rfl
      refine hs i a _ Y N ha (fun b h' hf s => hY b h' ?_ s) (fun h' hf s => hN h' ?_ s)
      · rw [e, List.filterMap_append, hb]; simp [hf]
      · rw [e, List.filterMap_append, hb]; simp [hf]
/-- the outer turns: what hangs on the item alone -/
theorem dlc2_map {α β : Type} {g : RG} {tt : RT} {ti1 : RI} {g1 : RG} {tt1 : RT} {te : RE} {grd : DH → Prop} {p : Addr} {τ : DSt} {vs1 : List Nat} {Q : RK} {h : DH} {inj : α → D} {as : List α} (enc : β → D) (f : α → List β) (hg : ∀ acc, grd (dupd h p (.lst acc)))
    (hs : ∀ (i : Nat) (a : α) (Nx : DH → Prop), as[i]? = some a → (∀ h', Sub (dupd h p (.lst (((as.take i).flatMap f ++ f a).map enc))) h' → Nx h') →
      g (inj a) τ (dupd h p (.lst (((as.take i).flatMap f).map enc))) fun τ2 h2 => tt τ2 h2 fun b h3 => Br b (ti1 τ2 h3 fun ds1 grd1 h4 => dlcI g1 tt1 te grd1 p (wipeD τ2 vs1) Nx ds1 h4) (Nx h3))
    (hd : Q (.ref p) (dupd h p (.lst ((as.flatMap f).map enc)))) : dlc2 g tt ti1 g1 tt1 te grd p τ vs1 Q (as.map inj) (dupd h p (.lst [])) := by
  refine dlc2_st enc (fun i bs => bs = (as.take i).flatMap f) (by simp) hg (fun i x bs Nx hx hb hN => ?_) (fun bs h => by rw [h, List.length_map, List.take_length]; exact hd)
  rw [List.getElem?_map] at hx
  cases ha : as[i]? with
  | none => rw [ha] at hx; cases hx
  | some a =>
    rw [ha] at hx; cases hx
    have e : as.take (i + 1) = as.take i ++ [a] := by rw [List.take_add_one, ha]; rfl
    rw [hb]
    exact hs i a Nx ha fun h' s => hN _ h' (by rw [e, List.flatMap_append]; simp) s
end DL
namespace DL
open PySem PySem.Spec PyProof.Rows L2
/-! ### dicts with keys that are ints or texts -/
def keyD : Key → D
  | .inl i => .int i
  | .inr s => .str s
theorem rep_key {K : PySem.W.Frag} {H : Hp} (k : Key) : Rep K H (keyD k) (kV k) := by
  cases k with
  | inl i => exact .int i
  | inr s => exact .str s
theorem key_of {K : PySem.W.Frag} {H : Hp} {k : Key} {v : V} (r : Rep K H (keyD k) v) : v = kV k := by
  cases k with
  | inl i => cases r; rfl
  | inr s => cases r; rfl
def lookD (kvs : List (Key × D)) (k : Key) : Option D := (kvs.find? fun kv => decide (kv.1 = k)).map (·.2)
def putKD (kvs : List (Key × D)) (k : Key) (v : D) : List (Key × D) :=
  if (kvs.any fun kv => decide (kv.1 = k)) = true then kvs.map (fun kv => if kv.1 = k then (kv.1, v) else kv) else kvs ++ [(k, v)]
/-- the two tell the same dict -/
inductive KR (K : PySem.W.Frag) (H : Hp) : List (Key × D) → List (Key × V) → Prop
  | nil : KR K H [] []
  | cons {k : Key} {d : D} {v : V} {ds : List (Key × D)} {vs : List (Key × V)} : Rep K H d v → KR K H ds vs → KR K H ((k, d) :: ds) ((k, v) :: vs)
section
variable {K : PySem.W.Frag} {H : Hp}
theorem KR.of : ∀ {kvs : List (Key × D)} {kv : List (Key × V)}, kv.map (·.1) = kvs.map (·.1) → Reps K H (kvs.map (·.2)) (kv.map (·.2)) → KR K H kvs kv
  | [], [], _, _ => .nil
  | [], _ :: _, e, _ => by simp at e
  | _ :: _, [], e, _ => by simp at e
  | (k, d) :: ds, (k', v) :: vs, e, r => by
    simp only [List.map_cons, List.cons.injEq] at e
    obtain ⟨rfl, e⟩ := e
    cases r with
    | cons a b => exact .cons a (KR.of e b)
theorem KR.keys : ∀ {kvs : List (Key × D)} {kv : List (Key × V)}, KR K H kvs kv → kv.map (·.1) = kvs.map (·.1)
  | _, _, .nil => rfl
  | _, _, .cons _ r => by simp [KR.keys r]
theorem KR.vals : ∀ {kvs : List (Key × D)} {kv : List (Key × V)}, KR K H kvs kv → Reps K H (kvs.map (·.2)) (kv.map (·.2))
  | _, _, .nil => .nil
  | _, _, .cons a r => .cons a (KR.vals r)
theorem KR.length {kvs : List (Key × D)} {kv : List (Key × V)} (r : KR K H kvs kv) : kv.length = kvs.length := by
  have := congrArg List.length r.keys; simpa using this
theorem KR.ext {H' : Hp} (e : Ext H H') : ∀ {kvs : List (Key × D)} {kv : List (Key × V)}, KR K H kvs kv → KR K H' kvs kv
  | _, _, .nil => .nil
  | _, _, .cons a r => .cons (a.ext e) (KR.ext e r)
theorem KR.look1 {k : Key} {d : D} : ∀ {kvs : List (Key × D)} {kv : List (Key × V)}, KR K H kvs kv → lookD kvs k = some d → ∃ v, valV kv k = some v ∧ Rep K H d v
  | _, _, .nil, h => by simp [lookD] at h
  | _, _, .cons (k := k') a r, h => by
    by_cases e : k' = k
    · subst e
      simp [lookD, List.find?_cons] at h
      subst h
      exact ⟨_, valV_pos rfl, a⟩
    · obtain ⟨v, h1, h2⟩ := KR.look1 (k := k) (d := d) r (by simpa [lookD, List.find?_cons, e] using h)
      exact ⟨v, (valV_neg (by simpa using e)).trans h1, h2⟩
theorem KR.look0 {k : Key} : ∀ {kvs : List (Key × D)} {kv : List (Key × V)}, KR K H kvs kv → lookD kvs k = none → valV kv k = none
  | _, _, .nil, _ => rfl
  | _, _, .cons (k := k') a r, h => by
    by_cases e : k' = k
    · subst e; simp [lookD, List.find?_cons] at h
    · refine (valV_neg (by simpa using e)).trans (KR.look0 r ?_)
      simpa [lookD, List.find?_cons, e] using h
theorem KR.isSome {k : Key} {kvs : List (Key × D)} {kv : List (Key × V)} (r : KR K H kvs kv) : (valV kv k).isSome = (lookD kvs k).isSome := by
  cases e : lookD kvs k with
  | none => rw [r.look0 e]; rfl
  | some d => obtain ⟨v, h, _⟩ := r.look1 e; rw [h]; rfl
theorem KR.anyK {k : Key} : ∀ {kvs : List (Key × D)} {kv : List (Key × V)}, KR K H kvs kv → (kv.any fun x => decide (x.1 = k)) = (kvs.any fun x => decide (x.1 = k))
  | _, _, .nil => rfl
  | _, _, .cons a r => by simp [KR.anyK r]
theorem KR.mapK {k : Key} {d : D} {v : V} (rd : Rep K H d v) : ∀ {kvs : List (Key × D)} {kv : List (Key × V)}, KR K H kvs kv → KR K H (kvs.map fun x => if x.1 = k then (x.1, d) else x) (kv.map fun x => if x.1 = k then (x.1, v) else x)
  | _, _, .nil => .nil
  | _, _, .cons (k := k') a r => by
    simp only [List.map_cons]
    by_cases e : k' = k
    · rw [if_pos e, if_pos e]; exact .cons rd (KR.mapK rd r)
    · rw [if_neg e, if_neg e]; exact .cons a (KR.mapK rd r)
theorem KR.append : ∀ {kvs es : List (Key × D)} {kv ev : List (Key × V)}, KR K H kvs kv → KR K H es ev → KR K H (kvs ++ es) (kv ++ ev)
  | _, _, _, _, .nil, s => s
  | _, _, _, _, .cons a r, s => .cons a (KR.append r s)
theorem KR.put {k : Key} {d : D} {v : V} (rd : Rep K H d v) {kvs : List (Key × D)} {kv : List (Key × V)} (r : KR K H kvs kv) : KR K H (putKD kvs k d) (putK kv k v) := by
  unfold putKD putK
  rw [r.anyK]
  split
  · exact r.mapK rd
  · exact r.append (.cons rd .nil)
def mergeD (kvs more : List (Key × D)) : List (Key × D) := more.foldl (fun acc kv => putKD acc kv.1 kv.2) kvs
theorem KR.merge {more : List (Key × D)} {mv : List (Key × V)} (r : KR K H more mv) : ∀ {kvs : List (Key × D)} {kv : List (Key × V)}, KR K H kvs kv → KR K H (mergeD kvs more) (mergeK kv mv) := by
  induction r with
  | nil => exact fun q => q
  | cons a r ih => exact fun q => ih (q.put a)
theorem RelH.dic {h : DH} (rs : RelH K h H) {p : Addr} {kvs : List (Key × D)} (hp : h p = some (.dic kvs)) : ∃ kv, H p = some (.dK kv) ∧ KR K H kvs kv := by
  obtain ⟨kv, a, b, c⟩ := rs p _ hp
  exact ⟨kv, a, .of b c⟩
theorem KR.repO {h : DH} {p : Addr} {kvs : List (Key × D)} {kv : List (Key × V)} (hp : H p = some (.dK kv)) (r : KR K H kvs kv) : RepO K h H p (.dic kvs) := ⟨kv, hp, r.keys, r.vals⟩
theorem RelH.setDic {h : DH} (rs : RelH K h H) {p : Addr} {kvs es : List (Key × D)} {kv ev : List (Key × V)} (hp : h p = some (.dic kvs)) (hv : H p = some (.dK kv)) (r : KR K H es ev) : RelH K (dupd h p (.dic es)) (upd H p (.dK ev)) :=
  rs.write hp (.dic hv) (KR.repO upd_same (r.ext (.dic hv)))
theorem RelH.newDic {h : DH} (rs : RelH K h H) {kvs : List (Key × D)} {kv : List (Key × V)} (r : KR K H kvs kv) {p : Addr} (n : H p = none) : RelH K (dupd h p (.dic kvs)) (upd H p (.dK kv)) :=
  rs.newO n (KR.repO upd_same (r.ext (.new n)))
end
section
variable {S : Sta} {pos cpos apos : Pos} {o i e f : Expr} {ta tb tc : RE}
/-! ### the parts of a dict that is written -/
abbrev RP := DSt → DH → (List (D × D) → DH → Prop) → Prop
def trsOf (X : Cx) : List (Option Expr) → List Expr → List (TE × TE)
  | some k :: ks, v :: vs => (tTop X k, tTop X v) :: trsOf X ks vs
  | _, _ => []
structure DPs (S : Sta) (ks : List (Option Expr)) (vs : List Expr) (t : RP) : Prop where
  ok : ∀ (X : Cx) (pos : Pos), PPs X pos ks vs (trsOf X ks vs)
  run : ∀ τ h Q, t τ h Q → ∀ r, Vw S r → ∀ σ H (QV : List (V × V) → Hp → Prop), RelS S.K h τ σ H →
    (∀ ds ws h1 H1, Ext H H1 → RelS S.K h1 τ σ H1 → Reps S.K H1 (ds.map (·.1)) (ws.map (·.1)) → Reps S.K H1 (ds.map (·.2)) (ws.map (·.2)) → Q ds h1 → QV ws H1) → tPairs (trsOf (S.cx r) ks vs) σ H QV
@[reducible] def rpNil : RP := fun _ h Q => Q [] h
@[reducible] def rpCons (tk tv : RE) (t : RP) : RP := fun τ h Q => tk τ h fun x h1 => tv τ h1 fun y h2 => t τ h2 fun ps h3 => Q ((x, y) :: ps) h3
theorem dps_nil : DPs S [] [] rpNil := ⟨fun X pos => pps_nil, fun τ h Q q r v σ H QV rs k => k [] [] h H (.refl _) rs .nil .nil q⟩
theorem dps_cons {k v : Expr} {ks : List (Option Expr)} {vs : List Expr} {t : RP} (hk : DE S k ta) (hv : DE S v tb) (hr : DPs S ks vs t) : DPs S (some k :: ks) (v :: vs) (rpCons ta tb t) := by
  refine ⟨fun X pos => pps_cons peTop peTop (hr.ok X pos), fun τ h Q q r vw σ H QV rs kt => ?_⟩
  refine hk.run τ h _ q r vw σ H _ rs fun d1 v1 h1 H1 e1 rs1 r1 q1 => ?_
  refine hv.run τ h1 _ q1 r vw σ H1 _ rs1 fun d2 v2 h2 H2 e2 rs2 r2 q2 => ?_
  exact hr.run τ h2 _ q2 r vw σ H2 _ rs2 fun ds ws h3 H3 e3 rs3 ra rb q3 => kt ((d1, d2) :: ds) ((v1, v2) :: ws) h3 H3 ((e1.trans e2).trans e3) rs3 (.cons (r1.ext (e2.trans e3)) ra) (.cons (r2.ext e3) rb) q3
/-- {k: v, ..} -/
@[reducible] def rDisp (t : RP) : RE := fun τ h Q => ∀ p, h p = none → t τ (dupd h p (.dic [])) fun ps h2 => h2 p = some (.dic []) ∧ ∃ kvs : List (Key × D), ps = kvs.map (fun kv => (keyD kv.1, kv.2)) ∧ kvs.length ≤ 15 ∧ Q (.ref p) (dupd h2 p (.dic (mergeD [] kvs)))
theorem disp_pairs {K : PySem.W.Frag} {H : Hp} : ∀ {kvs : List (Key × D)} {ws : List (V × V)}, Reps K H (kvs.map fun kv => keyD kv.1) (ws.map (·.1)) → Reps K H (kvs.map (·.2)) (ws.map (·.2)) → ∃ kv : List (Key × V), ws = kv.map (fun x => (kV x.1, x.2)) ∧ KR K H kvs kv
  | [], [], _, _ => ⟨[], rfl, .nil⟩
  | [], _ :: _, a, _ => by cases a
  | _ :: _, [], a, _ => by cases a
  | (k, d) :: ks, (x, y) :: ws, a, b => by
    cases a with
    | cons a1 a2 => cases b with
      | cons b1 b2 =>
        obtain ⟨kv, rfl, r⟩ := disp_pairs a2 b2
        have e1 : x = kV k := key_of a1
        exact ⟨(k, y) :: kv, by simp [e1], .cons b1 r⟩
theorem de_disp {ks : List (Option Expr)} {vs : List Expr} {t : RP} (h : DPs S ks vs t) (hall : ks.all (·.isSome) = true) (hl : ks.length = vs.length) (h0 : ks ≠ []) (h15 : ks.length ≤ 15) : DE S (.Dict ks vs pos) (rDisp t) := by
  refine ⟨fun τ h' Q q r v σ H QV rs k pins s I => ?_⟩
  refine (pe_disp (X := S.cx r) (h.ok (S.cx r) pos) hall hl h0 h15).run pins s σ H QV I fun p hp => ?_
  have q1 := q p (rs.ob.free hp)
  refine h.run τ _ _ q1 r v σ _ _ (rs.to (.new hp) (RelH.newDic rs.ob .nil hp)) fun ds ws h1 H1 e1 rs1 ra rb q2 => ?_
  obtain ⟨hp1, kvs, rfl, hz, q2⟩ := q2
  obtain ⟨kv0, f0, r0⟩ := RelH.dic rs1.ob hp1
  cases r0
  rw [List.map_map] at ra rb
  obtain ⟨kv, rfl, rk⟩ := disp_pairs (kvs := kvs) (by simpa [Function.comp_def] using ra) (by simpa [Function.comp_def] using rb)
  refine ⟨f0, kv, rfl, by rw [rk.length]; exact hz, ?_⟩
  exact k (.ref p) (.ref p) _ _ (((Ext.new hp).trans e1).trans (.dic f0)) (rs1.to (.dic f0) (RelH.setDic rs1.ob hp1 f0 (rk.merge .nil))) (.ref p) q2
@[reducible] def rDisp0 : RE := fun _ h Q => ∀ p, h p = none → Q (.ref p) (dupd h p (.dic []))
theorem de_disp0 : DE S (.Dict [] [] pos) rDisp0 :=
  ⟨fun τ h Q q r v σ H QV rs k pins s I => (pe_dnewK (X := S.cx r)).run pins s σ H QV I fun p hp => k (.ref p) (.ref p) _ _ (.new hp) (rs.to (.new hp) (RelH.newDic rs.ob .nil hp)) (.ref p) (q p (rs.ob.free hp))⟩
/-! ### d[k], k in d, d.get(k) -/
/-- what stands at a key -/
def DicAt (h : DH) (d : D) (k : D) (r : Option D) : Prop := ∃ (p : Addr) (kvs : List (Key × D)) (key : Key), d = .ref p ∧ h p = some (.dic kvs) ∧ k = keyD key ∧ r = lookD kvs key
theorem DicAt.get {S : Sta} {h : DH} {d k : D} {r : Option D} {τ : DSt} {σ : L2.St} {H : Hp} {x y : V} (g : DicAt h d k r) (rs : RelS S.K h τ σ H) (rd : Rep S.K H d x) (rk : Rep S.K H k y) :
    ∃ a rv, x = .ref a ∧ DGet H a y rv ∧ ((r = none ∧ rv = none) ∨ ∃ d0 v0, r = some d0 ∧ rv = some v0 ∧ Rep S.K H d0 v0) := by
  obtain ⟨p, kvs, key, rfl, hp, rfl, rfl⟩ := g
  cases rd
  obtain rfl := key_of rk
  obtain ⟨kv, f, r⟩ := RelH.dic rs.ob hp
  refine ⟨p, valV kv key, rfl, DGet.k f, ?_⟩
  cases e : lookD kvs key with
  | none => exact .inl ⟨rfl, r.look0 e⟩
  | some d0 => obtain ⟨v0, h1, h2⟩ := r.look1 e; exact .inr ⟨d0, v0, rfl, h1, h2⟩
@[reducible] def rDGet (td ty : RE) : RE := fun τ h Q => td τ h fun x h1 => ty τ h1 fun y h2 => ∃ d, DicAt h2 x y (some d) ∧ Q d h2
theorem de_dget (ho : DE S o ta) (hi : DE S i tb) (hs : NoSl i) : DE S (.Subscript o i pos) (rDGet ta tb) := by
  refine ⟨fun τ h Q q r v σ H QV rs k pins s I => ?_⟩
  refine (pe_dget (X := S.cx r) (by have := vw_units v; show r.A.units + 1 < cLine; omega) (peTop (e := o)) (peTop (e := i)) hs).run pins s σ H QV I ?_
  refine ho.run τ h _ q r v σ H _ rs fun d1 v1 h1 H1 e1 rs1 r1 q1 => ?_
  refine hi.run τ h1 _ q1 r v σ H1 _ rs1 fun d2 v2 h2 H2 e2 rs2 r2 q2 => ?_
  obtain ⟨d, g, q2⟩ := q2
  obtain ⟨a, rv, rfl, g', h'⟩ := g.get rs2 (r1.ext e2) r2
  rcases h' with ⟨z, _⟩ | ⟨d0, v0, e, rfl, rr⟩
  · cases z
  · cases e
    exact ⟨a, v0, rfl, g', (k.at (e1.trans e2)).val rs2 rr q2⟩
@[reducible] def rDGet1 (td ty : RE) : RE := fun τ h Q => td τ h fun x h1 => (∃ p kvs, x = .ref p ∧ h1 p = some (.dic kvs)) ∧ ty τ h1 fun y h2 => ∃ r, DicAt h2 x y r ∧ Q (r.getD .non) h2
theorem de_dget1 (ho : DE S o ta) (hi : DE S e tb) (hm : ∀ X : Cx, M1 X o "get" apos e cpos) : DE S (.Call (.Attribute o "get" apos) [e] [] cpos) (rDGet1 ta tb) := by
  refine ⟨fun τ h Q q r v σ H QV rs k pins s I => ?_⟩
  refine (pe_dget1 (X := S.cx r) (by have := vw_units v; show r.A.units + 1 < cLine; omega) (peTop (e := o)) (peTop (e := e)) (hm _)).run pins s σ H QV I ?_
  refine ho.run τ h _ q r v σ H _ rs fun d1 v1 h1 H1 e1 rs1 r1 q1 => ?_
  obtain ⟨⟨p, kvs, rfl, hp⟩, q1⟩ := q1
  cases r1
  obtain ⟨kv, f, _⟩ := RelH.dic rs1.ob hp
  refine ⟨p, rfl, .inl ⟨kv, .inl f⟩, ?_⟩
  refine hi.run τ h1 _ q1 r v σ H1 _ rs1 fun d2 v2 h2 H2 e2 rs2 r2 q2 => ?_
  obtain ⟨ro, g, q2⟩ := q2
  obtain ⟨a, rv, e0, g', h'⟩ := g.get rs2 (.ref p) r2
  cases e0
  refine ⟨rv, g', ?_⟩
  rcases h' with ⟨rfl, rfl⟩ | ⟨d0, v0, rfl, rfl, rr⟩
  · exact (k.at (e1.trans e2)).val rs2 .non q2
  · exact (k.at (e1.trans e2)).val rs2 rr q2
@[reducible] def rDGet2 (td ty tx : RE) : RE := fun τ h Q => td τ h fun x h1 => (∃ p kvs, x = .ref p ∧ h1 p = some (.dic kvs)) ∧ ty τ h1 fun y h2 => tx τ h2 fun z h3 => ∃ r, DicAt h3 x y r ∧ Q (r.getD z) h3
theorem de_dget2 (ho : DE S o ta) (hi : DE S e tb) (hf : DE S f tc) (hm : ∀ X : Cx, M2 X o "get" apos e f cpos) : DE S (.Call (.Attribute o "get" apos) [e, f] [] cpos) (rDGet2 ta tb tc) := by
  refine ⟨fun τ h Q q r v σ H QV rs k pins s I => ?_⟩
  refine (pe_dget2 (X := S.cx r) (by have := vw_units v; show r.A.units + 1 < cLine; omega) (peTop (e := o)) (peTop (e := e)) (peTop (e := f)) (hm _)).run pins s σ H QV I ?_
  refine ho.run τ h _ q r v σ H _ rs fun d1 v1 h1 H1 e1 rs1 r1 q1 => ?_
  obtain ⟨⟨p, kvs, rfl, hp⟩, q1⟩ := q1
  cases r1
  obtain ⟨kv, f0, _⟩ := RelH.dic rs1.ob hp
  refine ⟨p, rfl, .inl ⟨kv, .inl f0⟩, ?_⟩
  refine hi.run τ h1 _ q1 r v σ H1 _ rs1 fun d2 v2 h2 H2 e2 rs2 r2 q2 => ?_
  refine hf.run τ h2 _ q2 r v σ H2 _ rs2 fun d3 v3 h3 H3 e3 rs3 r3 q3 => ?_
  obtain ⟨ro, g, q3⟩ := q3
  obtain ⟨a, rv, e0, g', h'⟩ := g.get rs3 (.ref p) (r2.ext e3)
  cases e0
  refine ⟨rv, g', ?_⟩
  have e := (e1.trans e2).trans e3
  rcases h' with ⟨rfl, rfl⟩ | ⟨d0, v0, rfl, rfl, rr⟩
  · exact (k.at e).val rs3 r3 q3
  · exact (k.at e).val rs3 rr q3
/-! ### d[k] = v -/
@[reducible] def rDPut (td ty tv : RE) : RS := fun D τ h => tv τ h fun v h1 => td τ h1 fun x h2 => ty τ h2 fun y h3 => ∃ (p : Addr) (kvs : List (Key × DL.D)) (key : Key), x = .ref p ∧ h3 p = some (.dic kvs) ∧ y = keyD key ∧ kvs.length < sizeLine ∧ D.nx τ (dupd h3 p (.dic (putKD kvs key v)))
theorem ds_dput {value : Expr} {pos' : Pos} (ho : DE S o ta) (hi : DE S i tb) (hv : DE S value tc) (hs : NoSl i) (hw : ∀ env, swapsWith value (some (.Subscript o i pos')) pos.line env = pure false) : DS S (.Assign [.Subscript o i pos'] value pos) (rDPut ta tb tc) := by
  refine ⟨fun D τ h q r v σ H DV hl rs kt pins s I => ?_⟩
  refine (ps_dput (X := S.cx r) (by have := vw_units v; show r.A.units + 1 < cLine; omega) (peTop (e := o)) (peTop (e := i)) (peTop (e := value)) (hw _)).run pins s σ H DV I ?_
  refine hv.run τ h _ q r v σ H _ rs fun d0 v0 h1 H1 e1 rs1 r0 q1 => ?_
  refine ho.run τ h1 _ q1 r v σ H1 _ rs1 fun d1 v1 h2 H2 e2 rs2 r1 q2 => ?_
  refine hi.run τ h2 _ q2 r v σ H2 _ rs2 fun d2 v2 h3 H3 e3 rs3 r2 q3 => ?_
  obtain ⟨p, kvs, key, rfl, hp, rfl, hz, q3⟩ := q3
  cases r1
  obtain rfl := key_of r2
  obtain ⟨kv, f, rk⟩ := RelH.dic rs3.ob hp
  refine ⟨p, _, rfl, .inl ⟨kv, key, f, rfl, by rw [rk.length]; exact hz, rfl⟩, ?_⟩
  exact kt.nx _ _ _ _ (((e1.trans e2).trans e3).trans (.dic f)) (rs3.to (.dic f) (RelH.setDic rs3.ob hp f (rk.put (r0.ext (e2.trans e3))))) hl q3
/-! ### k in d -/
@[reducible] def rDIn (neg : Bool) (ty td : RE) : RE := fun τ h Q => ty τ h fun y h1 => td τ h1 fun x h2 => ∃ r, DicAt h2 x y r ∧ Q (.bl (ng neg r.isSome)) h2
theorem de_din (hi : DE S i tb) (ho : DE S o ta) (hm : behindInMarks .In o = false) : DE S (.Compare i [.In] [o] pos) (rDIn false tb ta) := by
  refine ⟨fun τ h Q q r v σ H QV rs k pins s I => ?_⟩
  refine (pe_cmp (pc_din (X := S.cx r) (by have := vw_units v; show r.A.units + 1 < cLine; omega) (peTop (e := i)) (peTop (e := o))) hm).run pins s σ H QV I ?_
  refine hi.run τ h _ q r v σ H _ rs fun d2 v2 h1 H1 e1 rs1 r2 q1 => ?_
  refine ho.run τ h1 _ q1 r v σ H1 _ rs1 fun d1 v1 h2 H2 e2 rs2 r1 q2 => ?_
  obtain ⟨ro, g, q2⟩ := q2
  obtain ⟨a, rv, rfl, g', h'⟩ := g.get rs2 r1 (r2.ext e2)
  refine ⟨a, rv, rfl, g', ?_⟩
  have e : rv.isSome = ro.isSome := by rcases h' with ⟨rfl, rfl⟩ | ⟨_, _, rfl, rfl, _⟩ <;> rfl
  exact (k.at (e1.trans e2)).val rs2 (.bl _) (by rw [e]; exact q2)
theorem de_dnotin (hi : DE S i tb) (ho : DE S o ta) (hm : behindInMarks .NotIn o = false) : DE S (.Compare i [.NotIn] [o] pos) (rDIn true tb ta) := by
  refine ⟨fun τ h Q q r v σ H QV rs k pins s I => ?_⟩
  refine (pe_cmp (pc_dnotin (X := S.cx r) (by have := vw_units v; show r.A.units + 1 < cLine; omega) (peTop (e := i)) (peTop (e := o))) hm).run pins s σ H QV I ?_
  refine hi.run τ h _ q r v σ H _ rs fun d2 v2 h1 H1 e1 rs1 r2 q1 => ?_
  refine ho.run τ h1 _ q1 r v σ H1 _ rs1 fun d1 v1 h2 H2 e2 rs2 r1 q2 => ?_
  obtain ⟨ro, g, q2⟩ := q2
  obtain ⟨a, rv, rfl, g', h'⟩ := g.get rs2 r1 (r2.ext e2)
  refine ⟨a, rv, rfl, g', ?_⟩
  have e : rv.isSome = ro.isSome := by rcases h' with ⟨rfl, rfl⟩ | ⟨_, _, rfl, rfl, _⟩ <;> rfl
  exact (k.at (e1.trans e2)).val rs2 (.bl _) (by rw [e]; exact q2)
@[reducible] def rDInT (neg : Bool) (ty td : RE) : RT := fun τ h Q => ty τ h fun y h1 => td τ h1 fun x h2 => ∃ r, DicAt h2 x y r ∧ Q (ng neg r.isSome) h2
theorem dt_din (hi : DE S i tb) (ho : DE S o ta) (hm : behindInMarks .In o = false) : DT S (.Compare i [.In] [o] pos) (rDInT false tb ta) := by
  refine ⟨fun τ h Q q r v σ H QV rs k pins s I => ?_⟩
  refine (pt_cmp (pc_din (X := S.cx r) (by have := vw_units v; show r.A.units + 1 < cLine; omega) (peTop (e := i)) (peTop (e := o))) hm).run pins s σ H QV I ?_
  refine hi.run τ h _ q r v σ H _ rs fun d2 v2 h1 H1 e1 rs1 r2 q1 => ?_
  refine ho.run τ h1 _ q1 r v σ H1 _ rs1 fun d1 v1 h2 H2 e2 rs2 r1 q2 => ?_
  obtain ⟨ro, g, q2⟩ := q2
  obtain ⟨a, rv, rfl, g', h'⟩ := g.get rs2 r1 (r2.ext e2)
  refine ⟨a, rv, rfl, g', _, rfl, ?_⟩
  have e : rv.isSome = ro.isSome := by rcases h' with ⟨rfl, rfl⟩ | ⟨_, _, rfl, rfl, _⟩ <;> rfl
  exact k _ h2 H2 (e1.trans e2) rs2 (by rw [e]; exact q2)
theorem dt_dnotin (hi : DE S i tb) (ho : DE S o ta) (hm : behindInMarks .NotIn o = false) : DT S (.Compare i [.NotIn] [o] pos) (rDInT true tb ta) := by
  refine ⟨fun τ h Q q r v σ H QV rs k pins s I => ?_⟩
  refine (pt_cmp (pc_dnotin (X := S.cx r) (by have := vw_units v; show r.A.units + 1 < cLine; omega) (peTop (e := i)) (peTop (e := o))) hm).run pins s σ H QV I ?_
  refine hi.run τ h _ q r v σ H _ rs fun d2 v2 h1 H1 e1 rs1 r2 q1 => ?_
  refine ho.run τ h1 _ q1 r v σ H1 _ rs1 fun d1 v1 h2 H2 e2 rs2 r1 q2 => ?_
  obtain ⟨ro, g, q2⟩ := q2
  obtain ⟨a, rv, rfl, g', h'⟩ := g.get rs2 r1 (r2.ext e2)
  refine ⟨a, rv, rfl, g', _, rfl, ?_⟩
  have e : rv.isSome = ro.isSome := by rcases h' with ⟨rfl, rfl⟩ | ⟨_, _, rfl, rfl, _⟩ <;> rfl
  exact k _ h2 H2 (e1.trans e2) rs2 (by rw [e]; exact q2)
end
end DL
namespace DLs
open PySem PySem.Spec PyProof.Rows L2
section
variable {X : Cx}
theorem pget_list : PGet X (rIxL X.K) := by
  intro pins s σ H x y v u Q I rx ry h
  obtain ⟨p, xs, i, z, rfl, rfl, hq, he, q⟩ := h
  cases rx
  obtain ⟨t, rfl⟩ := ry
  obtain ⟨its, r, pl, hz⟩ := I.list hq
  obtain ⟨j, h1, h2, h3, h4, h5⟩ := atI_get he
  obtain ⟨w, ew, rw'⟩ := r.get h2
  have hl := r.length
  have hn := line63
  have hsz : its.toArray.size = xs.length := by rw [List.size_toArray, hl]
  by_cases h0 : 0 ≤ i
  · have hj : i.toNat = j := Option.some.inj ((seqIndex_of h0 h5).symm.trans h1)
    refine wpAny_getItem_list (x := w) pl.isList h0 (by omega) ?_ ⟨z, H, I, rw', q⟩
    rw [hj, List.getElem?_toArray]; exact ew
  · have hj : (i + (its.toArray.size : Int)).toNat = j := by
      rw [hsz]; exact Option.some.inj ((seqIndex_neg (by omega) h4).symm.trans h1)
    refine wpAny_getItem_list_neg (x := w) pl.isList (by omega) (by omega) (by omega) ?_ ⟨z, H, I, rw', q⟩
    rw [hj, List.getElem?_toArray]; exact ew
end
end DLs
namespace DL
open PySem PySem.Spec PyProof.Rows L2
section
variable {S : Sta} {pos : Pos} {o i e : Expr} {ta tb tc : RE}
abbrev rImul : D → D → DH → RK → Prop := rInt CMul fun i j => .int (i * j)
theorem iod_mul : OpD S (inplaceOp .Mult) rImul := od_int fun _ _ => iop_mul
abbrev rIfdiv : D → D → DH → RK → Prop := rInt CDiv fun i j => .int (i / j)
theorem iod_fdiv : OpD S (inplaceOp .FloorDiv) rIfdiv := od_int fun _ _ => iop_fdiv
abbrev rImod : D → D → DH → RK → Prop := rInt (fun _ j => 0 < j) fun i j => .int (i % j)
theorem iod_mod : OpD S (inplaceOp .Mod) rImod := od_int fun _ _ => iop_mod
/-- o[i] op= e, o a list -/
@[reducible] def rAugS (to ti te : RE) (ro : D → D → DH → RK → Prop) : RS := fun D τ h => to τ h fun x h1 => ti τ h1 fun y h2 => match x, y with
  | .ref p, .int k => ∃ ds, h2 p = some (.lst ds) ∧ ∃ d, atI ds k = some d ∧ te τ h2 fun v h3 => ro d v h3 fun z h4 => ∃ es, h4 p = some (.lst es) ∧ ∃ j, ixN es.length k = some j ∧ D.nx τ (dupd h4 p (.lst (es.set j z)))
  | _, _ => False
theorem ds_augS {op : Operator} {ro : D → D → DH → RK → Prop} {tpos : Pos} (hop : OpD S (inplaceOp op) ro) (ho : DE S o ta) (hi : DE S i tb) (he : DE S e tc)
    (ha : ∀ ov iv new, augStore i ov iv new = (do holding [new, ov, iv] (setItem ov iv new); release [new, ov, iv] []; pure .next)) : DS S (.AugAssign (.Subscript o i tpos) op e pos) (rAugS ta tb tc ro) := by
  refine ⟨fun D τ h q r v σ H DV hl rs kt pins s I => ?_⟩
  refine (ps_augS (X := S.cx r) (tip := fun x y H Q => ∀ pins s σ u w, Inv (S.cx r) pins σ H s → RelV x u → RelV y w → wpAny (model S.P S.w) r.A (inplaceOp op u w) (EP (S.cx r) pins σ Q) (fun _ _ => False) s) (peTop (e := o)) (peTop (e := i)) DLs.pget_list (peTop (e := e)) ?_ set_list ha).run pins s σ H DV I ?_
  · exact fun pins s σ H x y u w Q I r1 r2 t => t pins s σ u w I r1 r2
  · refine ho.run τ h _ q r v σ H _ rs fun d1 v1 h1 H1 e1 rs1 r1 q1 => ?_
    refine hi.run τ h1 _ q1 r v σ H1 _ rs1 fun d2 v2 h2 H2 e2 rs2 r2 q2 => ?_
    cases d1 <;> cases d2 <;> try exact q2.elim
    rename_i pa kx
    cases r2
    cases r1
    obtain ⟨ds, hp, d, hd, q2⟩ := q2
    obtain ⟨vs, f, rr⟩ := RelH.lst rs2.ob hp
    have hat : ∃ v0, atI vs kx = some v0 ∧ Rep S.K H2 d v0 := by
      unfold atI at hd ⊢
      rw [← rr.length]
      cases en : ixN ds.length kx with
      | none => rw [en] at hd; cases hd
      | some j => rw [en] at hd; exact rr.get hd
    obtain ⟨v0, hv0, rv0⟩ := hat
    refine ⟨_, vs, _, v0, rfl, rfl, SqL.of f, hv0, ?_⟩
    refine he.run τ h2 _ q2 r v σ H2 _ rs2 fun d3 v3 h3 H3 e3 rs3 r3 q3 => ?_
    intro pins' s' σ' u w I' ru rw'
    refine hop r v _ _ h3 _ q3 v0 v3 [] σ' H3 _ ⟨fun i d q => by simp [lk] at q, rs3.ob⟩ (rv0.ext e3) r3 (fun d4 v4 h4 H4 e4 rs4 r4 q4 => ?_) pins' s' u w I' ru rw'
    obtain ⟨es, hp4, j, hj, q4⟩ := q4
    obtain ⟨ws, f4, rr4⟩ := RelH.lst rs4.ob hp4
    refine ⟨_, ws, _, j, rfl, rfl, f4, by rw [← rr4.length]; exact hj, ?_⟩
    have e14 := ((e1.trans e2).trans e3).trans e4
    exact kt.nx _ _ _ _ (e14.trans (.lst f4)) ((rs3.to e4 rs4.ob).to (.lst f4) (RelH.setLst rs4.ob hp4 f4 (rr4.set r4 j))) hl q4
end
end DL
namespace DL
open PySem PySem.Spec PyProof.Rows L2
/-! ### texts as lists of numbers -/
def tx (l : List Nat) : Str := ⟨l.toArray⟩
theorem tx_list (l : List Nat) : (tx l).cps.toList = l := by simp [tx]
theorem tx_of (x : Str) : tx x.cps.toList = x := by simp [tx]
theorem tx_len (l : List Nat) : (tx l).length = l.length := by simp [tx, Str.length]
theorem tx_app (a b : List Nat) : tx a ++ tx b = tx (a ++ b) := by
  show Str.append (tx a) (tx b) = _
  simp [Str.append, tx]
theorem tx_inj {a b : List Nat} : tx a = tx b ↔ a = b := ⟨fun e => by have := congrArg (fun x : Str => x.cps.toList) e; simpa [tx_list] using this, fun e => by rw [e]⟩
theorem tx_one (c : Nat) : (⟨#[c]⟩ : Str) = tx [c] := rfl
theorem tx_nil : Str.ofString "" = tx [] := by decide +kernel
theorem tx_cut (l : List Nat) (lo hi : Option Int) : cutS (tx l) lo hi = tx (cut l lo hi) := by
  unfold cutS cut
  rw [tx_list, tx_len]; rfl
theorem tx_join {ts : List (List Nat)} : Txt.join (tx []) (ts.map tx) = tx ts.flatten := by
  have aux : ∀ (ts : List (List Nat)) (a : Array Nat), (ts.map tx).foldl (fun acc p => acc ++ (tx []).cps ++ p.cps) a = a ++ ts.flatten.toArray := by
    intro ts
    induction ts with
    | nil => intro a; simp
    | cons t r ih => intro a; rw [List.map_cons, List.foldl_cons, ih]; simp [tx]
  show (⟨_⟩ : Str) = _
  cases ts with
  | nil => rfl
  | cons t r =>
    rw [List.map_cons, List.drop_one, List.tail_cons, aux]
    simp [tx]
theorem tx_join1 (t : List Nat) : Txt.join (tx []) (t.map fun c => tx [c]) = tx t := by
  have := tx_join (ts := t.map fun c => [c])
  rw [List.map_map] at this
  rw [show (t.map fun c => tx [c]) = t.map (tx ∘ fun c => [c]) from rfl, this]
  refine congrArg tx ?_
  clear this
  induction t with
  | nil => rfl
  | cons a r ih => rw [List.map_cons, List.flatten_cons, ih]; rfl
/-! ### cuts by whole numbers -/
theorem cut_toN {α : Type} (xs : List α) {k : Int} {n : Nat} (e : k = (n : Int)) : cut xs none (some k) = xs.take n := by
  subst e
  unfold cut
  have e1 : HT.sIx xs.length 0 none = 0 := rfl
  rw [e1, HT.sIx_nat, List.drop_zero, Nat.sub_zero]
  by_cases z : n ≤ xs.length
  · rw [Nat.min_eq_left z]
  · rw [Nat.min_eq_right (by omega), List.take_of_length_le (Nat.le_refl _), List.take_of_length_le (by omega)]
theorem cut_fromN {α : Type} (xs : List α) {k : Int} {n : Nat} (e : k = (n : Int)) : cut xs (some k) none = xs.drop n := by
  subst e
  unfold cut
  have e1 : HT.sIx xs.length xs.length none = xs.length := rfl
  rw [e1, HT.sIx_nat]
  by_cases z : n ≤ xs.length
  · rw [Nat.min_eq_left z, List.take_of_length_le (by rw [List.length_drop]; omega)]
  · rw [Nat.min_eq_right (by omega), List.drop_length, List.drop_eq_nil_of_le (by omega)]; simp
theorem cut_midN {α : Type} (xs : List α) {k l : Int} {n m : Nat} (e1 : k = (n : Int)) (e2 : l = (m : Int)) : cut xs (some k) (some l) = (xs.drop n).take (m - n) := by
  rw [cut_mid xs k l (by omega) (by omega), e1, e2, Int.toNat_natCast, Int.toNat_natCast]
theorem BoxAt.sub {h h' : DH} {b : Addr} (B : BoxAt h b) (s : Sub h h') : BoxAt h' b := by
  obtain ⟨dl, e1, e2⟩ := B
  exact ⟨dl, s _ _ e1, s _ _ e2⟩
end DL
namespace K48
open PySem PySem.Spec PyProof.Rows L2 DL
def top (i : Nat) : Stmt := PySem.Challenge.pw_pagehouse_k48_tops_that_are_held.main.body.getD i (.Pass ⟨0, 0, 0, 0⟩)
structure Gx (G : Gc) : Prop where
  z_abs : G.mg "abs" = none
  z_bool : G.mg "bool" = none
  z_enumerate : G.mg "enumerate" = none
  z_int : G.mg "int" = none
  z_isinstance : G.mg "isinstance" = none
  z_len : G.mg "len" = none
  z_max : G.mg "max" = none
  z_min : G.mg "min" = none
  z_range : G.mg "range" = none
  z_str : G.mg "str" = none
  z_sum : G.mg "sum" = none
  z_tuple : G.mg "tuple" = none

/-! ### the promises of the law's helpers -/
def sp__law_cell : DSp := fun ds h Q => ∃ (ns : List Int) (k : Int), ds = [.scr ns, .int k] ∧ 0 ≤ k ∧ ∀ z, Q (.int z) h
def sp__law_digits : DSp := fun ds h Q => ∃ (ns : List Int) (a b : Int), ds = [.scr ns, .int a, .int b] ∧ 0 ≤ a ∧ a ≤ 1000 ∧ 0 ≤ b ∧ b ≤ 1000 ∧ ∀ (p : Addr) (ms : List Int), h p = none → Q (.ref p) (dupd h p (.lst (ms.map D.int)))
def sp__law_box : DSp := fun ds h Q => ∃ (ns : List Int) (a b : Int), ds = [.scr ns, .int a, .int b] ∧ 0 ≤ a ∧ a ≤ 1000 ∧ 0 ≤ b ∧ b ≤ 1000 ∧ ∀ p dl, h p = none → h dl = none → dl ≠ p → Q (.ref p) (dupd (dupd h p (.box dl)) dl .hid)
def sp__law_draw : DSp := fun ds h Q => ∃ (b : Addr) (m : Int), ds = [.ref b, .int m] ∧ BoxAt h b ∧ 0 < m ∧ ∀ z : Int, 0 ≤ z → z < m → Q (.int z) h
/-- equal data are the same -/
def sp__law_same : DSp := fun ds h Q => ∃ d, ds = [d, d] ∧ dat 20 d = true ∧ Q (.bl true) h
theorem draw_call {h : DH} {b : Addr} {m : Int} {Q : RK} (B : BoxAt h b) (hm : 0 < m) (k : ∀ z : Int, 0 ≤ z → z < m → Q (.int z) h) : sp__law_draw [.ref b, .int m] h Q := ⟨b, m, rfl, B, hm, k⟩
theorem same_call {h : DH} {d : D} {Q : RK} (hd : dat 20 d = true) (q : Q (.bl true) h) : sp__law_same [d, d] h Q := ⟨d, rfl, hd, q⟩
theorem same_callE {h : DH} {d d' : D} {Q : RK} (e : d = d') (hd : dat 20 d = true) (q : Q (.bl true) h) : sp__law_same [d, d'] h Q := by subst e; exact same_call hd q
/-! k48: the plain law of low parts (of a number its lowest bit that is set) and of sums by low parts. -/
def lowb (n : Nat) : Nat :=
  if h : n = 0 ∨ n % 2 = 1 then 1 else 2 * lowb (n / 2)
termination_by n
decreasing_by omega

theorem lowb_odd {n : Nat} (h : n % 2 = 1) : lowb n = 1 := by
  rw [lowb]; simp [h]

theorem lowb_two {n : Nat} (h : 0 < n) : lowb (2 * n) = 2 * lowb n := by
  have e : 2 * n / 2 = n := by omega
  have c : ¬ (2 * n = 0 ∨ 2 * n % 2 = 1) := by omega
  rw [lowb, dif_neg c, e]

theorem lowb_pos (n : Nat) : 0 < lowb n := by
  induction n using Nat.strongRecOn with
  | _ n ih =>
    rw [lowb]
    split
    · omega
    · next h => have := ih (n / 2) (by omega); omega

/-- every number above nought is odd or twice a smaller one -/
theorem half_of {n : Nat} (h : 0 < n) : n % 2 = 1 ∨ ∃ m, 0 < m ∧ m < n ∧ n = 2 * m := by
  rcases Nat.mod_two_eq_zero_or_one n with e | e
  · exact Or.inr ⟨n / 2, by omega, by omega, by omega⟩
  · exact Or.inl e

theorem lowb_le {n : Nat} (h : 0 < n) : lowb n ≤ n := by
  induction n using Nat.strongRecOn with
  | _ n ih =>
    rcases half_of h with e | ⟨m, m0, ml, rfl⟩
    · rw [lowb_odd e]; omega
    · rw [lowb_two m0]; have := ih m ml m0; omega

theorem lowb_add {i r : Nat} (hi : 0 < i) (hr : 0 < r) (h : r < lowb i) : lowb (i + r) = lowb r := by
  induction i using Nat.strongRecOn generalizing r with
  | _ i ih =>
    rcases half_of hi with e | ⟨m, m0, ml, rfl⟩
    · rw [lowb_odd e] at h; omega
    · rw [lowb_two m0] at h
      rcases half_of hr with f | ⟨s, s0, sl, rfl⟩
      · rw [lowb_odd f, lowb_odd (by omega)]
      · rw [lowb_two s0, show 2 * m + 2 * s = 2 * (m + s) from by omega, lowb_two (by omega),
          ih m ml m0 s0 (by omega)]

theorem lowb_next {i : Nat} (hi : 0 < i) : 2 * lowb i ≤ lowb (i + lowb i) := by
  induction i using Nat.strongRecOn with
  | _ i ih =>
    rcases half_of hi with e | ⟨m, m0, ml, rfl⟩
    · rw [lowb_odd e]
      obtain ⟨k, hk⟩ : ∃ k, i + 1 = 2 * k := ⟨(i + 1) / 2, by omega⟩
      rw [hk, lowb_two (by omega)]
      have := lowb_pos k; omega
    · rw [lowb_two m0, show 2 * m + 2 * lowb m = 2 * (m + lowb m) from by omega, lowb_two (by omega)]
      have := ih m ml m0; omega

/-- a cell j of the sums holds the row p (counted from 1) -/
def HoldsB (j p : Nat) : Prop := j - lowb j < p ∧ p ≤ j

instance (j p : Nat) : Decidable (HoldsB j p) := by unfold HoldsB; infer_instance

theorem HoldsB.next {i p : Nat} (hi : 0 < i) (h : HoldsB i p) : HoldsB (i + lowb i) p := by
  have a := lowb_next hi
  have b := lowb_le hi
  have c := lowb_pos i
  unfold HoldsB at *
  constructor <;> omega

theorem HoldsB.between {i p j : Nat} (hi : 0 < i) (h : HoldsB i p) (a : i < j) (b : j < i + lowb i) :
    ¬ HoldsB j p := by
  obtain ⟨r, rfl⟩ : ∃ r, j = i + r := ⟨j - i, by omega⟩
  have e := lowb_add hi (r := r) (by omega) (by omega)
  have f := lowb_le (n := r) (by omega)
  unfold HoldsB at *
  rw [e]; omega

/-- two cells that are unlike and the first below p hold no row p -/
theorem HoldsB.self {p : Nat} (h : 0 < p) : HoldsB p p := by
  have := lowb_pos p
  unfold HoldsB; omega

theorem HoldsB.not_below {p j : Nat} (h : j < p) : ¬ HoldsB j p := by
  unfold HoldsB; omega

/-- the sum of the first n rows -/
def psum (xs : List Int) (n : Nat) : Int := (xs.take n).sum

/-- what the cells hold: cell j the sum of the rows from j - lowb j up to j -/
def FenOk (rows sums : List Int) : Prop :=
  sums.length = rows.length + 1 ∧
  ∀ j, 0 < j → j ≤ rows.length → sums.getD j 0 = psum rows j - psum rows (j - lowb j)

theorem psum_set {xs : List Int} {k : Nat} (hk : k < xs.length) (v : Int) (n : Nat) :
    psum (xs.set k v) n = psum xs n + (if k < n then v - xs.getD k 0 else 0) := by
  unfold psum
  induction xs generalizing k n with
  | nil => simp at hk
  | cons x xs ih =>
    cases n with
    | zero => simp
    | succ n =>
      cases k with
      | zero => simp; omega
      | succ k =>
        have := ih (k := k) (by simpa using hk) n
        simp only [List.set_cons_succ, List.take_succ_cons, List.sum_cons, List.getD_cons_succ, this]
        by_cases c : k < n
        · rw [if_pos c, if_pos (by omega)]; omega
        · rw [if_neg c, if_neg (by omega)]; omega

theorem psum_zero (xs : List Int) : psum xs 0 = 0 := by simp [psum]

/-- half way through a change: the cells below i are those of the new rows, the others of the old -/
def FenMid (rows : List Int) (p : Nat) (d : Int) (i : Nat) (sums : List Int) : Prop :=
  sums.length = rows.length + 1 ∧
  ∀ j, 0 < j → j ≤ rows.length →
    sums.getD j 0 = psum rows j - psum rows (j - lowb j) + (if HoldsB j p ∧ j < i then d else 0)


theorem FenMid.start {rows sums : List Int} {p : Nat} (d : Int) (h : FenOk rows sums) :
    FenMid rows p d p sums := by
  refine ⟨h.1, fun j j0 jn => ?_⟩
  rw [h.2 j j0 jn, if_neg (fun c => HoldsB.not_below c.2 c.1)]; omega

theorem FenMid.step {rows sums : List Int} {p i : Nat} {d : Int} (h : FenMid rows p d i sums)
    (hi : 0 < i) (c : HoldsB i p) (n : i ≤ rows.length) :
    FenMid rows p d (i + lowb i) (sums.set i (sums.getD i 0 + d)) := by
  refine ⟨by rw [List.length_set]; exact h.1, fun j j0 jn => ?_⟩
  have lp := lowb_pos i
  have hl := h.1
  by_cases e : j = i
  · subst e
    have w : ¬ (HoldsB j p ∧ j < j) := by omega
    have a := h.2 j j0 jn
    rw [if_neg w] at a
    rw [if_pos ⟨c, by omega⟩]
    have : (sums.set j (sums.getD j 0 + d)).getD j 0 = sums.getD j 0 + d := by
      rw [List.getD_eq_getElem?_getD, List.getElem?_set_self (by omega)]; rfl
    rw [this, a]; omega
  · have : (sums.set i (sums.getD i 0 + d)).getD j 0 = sums.getD j 0 := by
      rw [List.getD_eq_getElem?_getD, List.getElem?_set_ne (fun q => e q.symm), List.getD_eq_getElem?_getD]
    rw [this, h.2 j j0 jn]
    have q : (HoldsB j p ∧ j < i) ↔ (HoldsB j p ∧ j < i + lowb i) := by
      constructor
      · exact fun g => ⟨g.1, by omega⟩
      · intro g
        refine ⟨g.1, ?_⟩
        by_cases k : j < i
        · exact k
        · exact absurd g.1 (HoldsB.between hi c (by omega) g.2)
    by_cases g : HoldsB j p ∧ j < i
    · rw [if_pos g, if_pos (q.1 g)]
    · rw [if_neg g, if_neg (fun f => g (q.2 f))]

theorem FenMid.done {rows sums : List Int} {p i : Nat} {v : Int} (hp : 0 < p) (pn : p ≤ rows.length)
    (h : FenMid rows p (v - rows.getD (p - 1) 0) i sums) (e : rows.length < i) :
    FenOk (rows.set (p - 1) v) sums := by
  refine ⟨by rw [List.length_set]; exact h.1, fun j j0 jn => ?_⟩
  rw [List.length_set] at jn
  rw [h.2 j j0 jn, psum_set (by omega), psum_set (by omega)]
  have lp := lowb_pos j
  unfold HoldsB
  by_cases a : p - 1 < j
  · rw [if_pos a]
    by_cases b : p - 1 < j - lowb j
    · rw [if_pos b, if_neg (by omega)]; omega
    · rw [if_neg b, if_pos (by omega)]; omega
  · rw [if_neg a, if_neg (by omega), if_neg (by omega)]; omega

theorem FenOk.down {rows sums : List Int} (h : FenOk rows sums) {i : Nat} (i0 : 0 < i) (n : i ≤ rows.length) :
    psum rows i = sums.getD i 0 + psum rows (i - lowb i) := by
  rw [h.2 i i0 n]; omega

theorem getD_repl (n j : Nat) : (List.replicate n (0 : Int)).getD j 0 = 0 := by
  rw [List.getD_eq_getElem?_getD, List.getElem?_replicate]; split <;> rfl

theorem psum_repl (n j : Nat) : psum (List.replicate n (0 : Int)) j = 0 := by
  unfold psum
  rw [List.take_replicate]
  induction min j n with
  | zero => rfl
  | succ k ih => rw [List.replicate_succ, List.sum_cons, ih]; rfl

theorem FenOk.empty (n : Nat) : FenOk (List.replicate n 0) (List.replicate (n + 1) 0) := by
  refine ⟨by simp, fun j _ _ => ?_⟩
  rw [getD_repl, psum_repl, psum_repl]; rfl

theorem psum_succ {xs : List Int} {n : Nat} (h : n < xs.length) :
    psum xs (n + 1) = psum xs n + xs.getD n 0 := by
  unfold psum
  induction xs generalizing n with
  | nil => simp at h
  | cons x xs ih =>
    cases n with
    | zero => simp
    | succ n =>
      have := ih (n := n) (by simpa using h)
      simp only [List.take_succ_cons, List.sum_cons, List.getD_cons_succ, this]; omega

theorem psum_lt {xs : List Int} (pos : ∀ x ∈ xs, 0 < x) {a b : Nat} (h : a < b) (n : b ≤ xs.length) :
    psum xs a < psum xs b := by
  induction b with
  | zero => omega
  | succ b ih =>
    rw [psum_succ (by omega)]
    have hb : b < xs.length := by omega
    have q : 0 < xs.getD b 0 := by
      rw [List.getD_eq_getElem?_getD, List.getElem?_eq_getElem hb]
      exact pos _ (List.getElem_mem hb)
    by_cases c : a < b
    · have := ih c (by omega); omega
    · have : a = b := by omega
      subst this; omega

/-- only one row has a place within -/
theorem psum_one {xs : List Int} (pos : ∀ x ∈ xs, 0 < x) {a b : Nat} {y : Int}
    (a1 : a < xs.length) (a2 : psum xs a ≤ y) (a3 : y < psum xs (a + 1))
    (b1 : b < xs.length) (b2 : psum xs b ≤ y) (b3 : y < psum xs (b + 1)) : a = b := by
  have mono : ∀ {a b : Nat}, a < b → b ≤ xs.length → psum xs a < psum xs b := fun h n => psum_lt pos h n
  rcases Nat.lt_trichotomy a b with h | h | h
  · by_cases e : a + 1 = b
    · subst e; omega
    · have := mono (a := a + 1) (b := b) (by omega) (by omega); omega
  · exact h
  · by_cases e : b + 1 = a
    · subst e; omega
    · have := mono (a := b + 1) (b := a) (by omega) (by omega); omega

theorem lowb_pow (a q : Nat) : lowb (2 ^ a * (2 * q + 1)) = 2 ^ a := by
  induction a with
  | zero => rw [Nat.pow_zero, Nat.one_mul]; exact lowb_odd (by omega)
  | succ a ih =>
    have p : 0 < 2 ^ a * (2 * q + 1) := Nat.mul_pos (Nat.pow_pos (by omega)) (by omega)
    rw [Nat.pow_succ, Nat.mul_comm (2 ^ a) 2, Nat.mul_assoc, lowb_two p, ih]

/-- the cell that the way down looks at -/
theorem lowb_way {k q f : Nat} (h : f = 2 ^ (k + 1) * q) : lowb (f + 2 ^ k) = 2 ^ k := by
  have : f + 2 ^ k = 2 ^ k * (2 * q + 1) := by
    rw [h, Nat.pow_succ, Nat.mul_add, Nat.mul_one, Nat.mul_assoc]
  rw [this, lowb_pow]
/-! ### k48 -/
abbrev heiO (C ps pr : Addr) : DO := .ins C [Str.ofString "sums", Str.ofString "rows"] [.ref ps, .ref pr]
/-- heights that lie at p, their sums told well -/
structure HeiAt (C p ps pr : Addr) (rows sums : List Int) (h : DH) : Prop where
  i : h p = some (heiO C ps pr)
  s : h ps = some (.lst (sums.map D.int))
  r : h pr = some (.lst (rows.map D.int))
  n1 : ps ≠ pr
  n2 : p ≠ ps
  n3 : p ≠ pr
  ok : FenOk rows sums
  le : rows.length ≤ 100
/-- what lies at an offset -/
def LiesD (rows : List Int) (y : Int) : D → Prop
  | .int k => ∃ n : Nat, k = n ∧ n < rows.length ∧ psum rows n ≤ y ∧ y < psum rows (n + 1)
  | .non => y < 0 ∨ psum rows rows.length ≤ y
  | _ => False
def max0 (a b : Int) : Int := if b > a then b else a
def min0 (a b : Int) : Int := if b < a then b else a
def sp_low_part : DSp := fun ds h Q => ∃ (n : Nat), ds = [.int (n : Int)] ∧ (0 < n) ∧ (n ≤ 1000) ∧ (Q (.int ((lowb n : Nat) : Int)) h)
theorem low_part_call {n : Nat} {h : DH} {Q : RK} (f1 : 0 < n) (f2 : n ≤ 1000) (q : Q (.int ((lowb n : Nat) : Int)) h) : sp_low_part [.int (n : Int)] h Q := ⟨n, rfl, f1, f2, q⟩

def sp_Heights_change (C_Heights : Addr) : DSp := fun ds h Q => ∃ (p ps pr : Addr) (rows sums : List Int) (k : Nat) (v : Int), ds = [.ref p, .int (k : Int), .int v] ∧ (HeiAt C_Heights p ps pr rows sums h) ∧ (k < rows.length) ∧ (∀ sums', FenOk (rows.set k v) sums' → Q .non (dupd (dupd h pr (.lst ((rows.set k v).map D.int))) ps (.lst (sums'.map D.int))))
theorem Heights_change_call {C_Heights : Addr} {p ps pr : Addr} {rows sums : List Int} {k : Nat} {v : Int} {h : DH} {Q : RK} (f1 : HeiAt C_Heights p ps pr rows sums h) (f2 : k < rows.length) (q : ∀ sums', FenOk (rows.set k v) sums' → Q .non (dupd (dupd h pr (.lst ((rows.set k v).map D.int))) ps (.lst (sums'.map D.int)))) : sp_Heights_change C_Heights [.ref p, .int (k : Int), .int v] h Q := ⟨p, ps, pr, rows, sums, k, v, rfl, f1, f2, q⟩

def sp_Heights_top (C_Heights : Addr) : DSp := fun ds h Q => ∃ (p ps pr : Addr) (rows sums : List Int) (k : Nat), ds = [.ref p, .int (k : Int)] ∧ (HeiAt C_Heights p ps pr rows sums h) ∧ (k ≤ rows.length) ∧ (Q (.int (psum rows k)) h)
theorem Heights_top_call {C_Heights : Addr} {p ps pr : Addr} {rows sums : List Int} {k : Nat} {h : DH} {Q : RK} (f1 : HeiAt C_Heights p ps pr rows sums h) (f2 : k ≤ rows.length) (q : Q (.int (psum rows k)) h) : sp_Heights_top C_Heights [.ref p, .int (k : Int)] h Q := ⟨p, ps, pr, rows, sums, k, rfl, f1, f2, q⟩

def sp_Heights_total (C_Heights : Addr) : DSp := fun ds h Q => ∃ (p ps pr : Addr) (rows sums : List Int), ds = [.ref p] ∧ (HeiAt C_Heights p ps pr rows sums h) ∧ (Q (.int (psum rows rows.length)) h)
theorem Heights_total_call {C_Heights : Addr} {p ps pr : Addr} {rows sums : List Int} {h : DH} {Q : RK} (f1 : HeiAt C_Heights p ps pr rows sums h) (q : Q (.int (psum rows rows.length)) h) : sp_Heights_total C_Heights [.ref p] h Q := ⟨p, ps, pr, rows, sums, rfl, f1, q⟩

def sp_Heights_lies_at (C_Heights : Addr) : DSp := fun ds h Q => ∃ (p ps pr : Addr) (rows sums : List Int) (y : Int), ds = [.ref p, .int y] ∧ (HeiAt C_Heights p ps pr rows sums h) ∧ (∀ d, LiesD rows y d → Q d h)
theorem Heights_lies_at_call {C_Heights : Addr} {p ps pr : Addr} {rows sums : List Int} {y : Int} {h : DH} {Q : RK} (f1 : HeiAt C_Heights p ps pr rows sums h) (q : ∀ d, LiesD rows y d → Q d h) : sp_Heights_lies_at C_Heights [.ref p, .int y] h Q := ⟨p, ps, pr, rows, sums, y, rfl, f1, q⟩

def sp_Heights___init__ (C_Heights : Addr) : DSp := fun ds h Q => ∃ (p : Addr) (rows : List Int), ds = [.ref p, .tup (rows.map D.int)] ∧ (h p = some (.ins C_Heights [] [])) ∧ (rows.length ≤ 100) ∧ (∀ ps pr sums, h ps = none → h pr = none → ps ≠ pr → p ≠ ps → p ≠ pr → FenOk rows sums → Q .non (dupd (dupd (dupd h p (heiO C_Heights ps pr)) ps (.lst (sums.map D.int))) pr (.lst (rows.map D.int))))
theorem Heights___init___call {C_Heights : Addr} {p : Addr} {rows : List Int} {h : DH} {Q : RK} (f1 : h p = some (.ins C_Heights [] [])) (f2 : rows.length ≤ 100) (q : ∀ ps pr sums, h ps = none → h pr = none → ps ≠ pr → p ≠ ps → p ≠ pr → FenOk rows sums → Q .non (dupd (dupd (dupd h p (heiO C_Heights ps pr)) ps (.lst (sums.map D.int))) pr (.lst (rows.map D.int)))) : sp_Heights___init__ C_Heights [.ref p, .tup (rows.map D.int)] h Q := ⟨p, rows, rfl, f1, f2, q⟩

def sp_anchor (C_Heights : Addr) : DSp := fun ds h Q => ∃ (p ps pr : Addr) (rows sums : List Int) (y : Int), ds = [.ref p, .int y] ∧ (HeiAt C_Heights p ps pr rows sums h) ∧ (0 ≤ y) ∧ ((psum rows rows.length ≤ y → Q (.tup [.int 0, .int y]) h) ∧ (∀ n : Nat, n < rows.length → psum rows n ≤ y → y < psum rows (n + 1) → Q (.tup [.int (n : Int), .int (y - psum rows n)]) h))
theorem anchor_call {C_Heights : Addr} {p ps pr : Addr} {rows sums : List Int} {y : Int} {h : DH} {Q : RK} (f1 : HeiAt C_Heights p ps pr rows sums h) (f2 : 0 ≤ y) (q : (psum rows rows.length ≤ y → Q (.tup [.int 0, .int y]) h) ∧ (∀ n : Nat, n < rows.length → psum rows n ≤ y → y < psum rows (n + 1) → Q (.tup [.int (n : Int), .int (y - psum rows n)]) h)) : sp_anchor C_Heights [.ref p, .int y] h Q := ⟨p, ps, pr, rows, sums, y, rfl, f1, f2, q⟩

def sp_held_top (C_Heights : Addr) : DSp := fun ds h Q => ∃ (p ps pr : Addr) (rows sums : List Int) (k : Nat) (w hi : Int), ds = [.ref p, .int (k : Int), .int w, .int hi] ∧ (HeiAt C_Heights p ps pr rows sums h) ∧ (k < rows.length) ∧ (Q (.int (max0 0 (min0 (psum rows k + min0 w (max0 0 (rows.getD k 0 - 1))) (psum rows rows.length - hi)))) h)
theorem held_top_call {C_Heights : Addr} {p ps pr : Addr} {rows sums : List Int} {k : Nat} {w hi : Int} {h : DH} {Q : RK} (f1 : HeiAt C_Heights p ps pr rows sums h) (f2 : k < rows.length) (q : Q (.int (max0 0 (min0 (psum rows k + min0 w (max0 0 (rows.getD k 0 - 1))) (psum rows rows.length - hi)))) h) : sp_held_top C_Heights [.ref p, .int (k : Int), .int w, .int hi] h Q := ⟨p, ps, pr, rows, sums, k, w, hi, rfl, f1, f2, q⟩

def wayI (rows : List Int) (k : Nat) (hi : Int) : Nat → Int
  | 0 => psum rows k
  | 1 => psum rows k + rows.getD k 0 - hi
  | _ => psum rows k + rows.getD k 0 / 2 - hi / 2
def wayS : Nat → Str
  | 0 => Str.ofString "start"
  | 1 => Str.ofString "end"
  | _ => Str.ofString "middle"
def sp_scrolled (C_Heights : Addr) : DSp := fun ds h Q => ∃ (p ps pr : Addr) (rows sums : List Int) (k j : Nat) (hi : Int), ds = [.ref p, .int (k : Int), .int hi, .str (wayS j)] ∧ (HeiAt C_Heights p ps pr rows sums h) ∧ (k < rows.length) ∧ (j < 3) ∧ (Q (.int (max0 0 (min0 (wayI rows k hi j) (psum rows rows.length - hi)))) h)
theorem scrolled_call {C_Heights : Addr} {p ps pr : Addr} {rows sums : List Int} {k j : Nat} {hi : Int} {h : DH} {Q : RK} (f1 : HeiAt C_Heights p ps pr rows sums h) (f2 : k < rows.length) (f3 : j < 3) (q : Q (.int (max0 0 (min0 (wayI rows k hi j) (psum rows rows.length - hi)))) h) : sp_scrolled C_Heights [.ref p, .int (k : Int), .int hi, .str (wayS j)] h Q := ⟨p, ps, pr, rows, sums, k, j, hi, rfl, f1, f2, f3, q⟩

def nearI (s e t hi : Int) : Int := if e - s ≥ hi then max0 s (min0 t (e - hi)) else if s < t then s else if e > t + hi then e - hi else t
def sp_nearest_top (C_Heights : Addr) : DSp := fun ds h Q => ∃ (p ps pr : Addr) (rows sums : List Int) (k : Nat) (t hi : Int), ds = [.ref p, .int (k : Int), .int t, .int hi] ∧ (HeiAt C_Heights p ps pr rows sums h) ∧ (k < rows.length) ∧ (Q (.int (nearI (psum rows k) (psum rows k + rows.getD k 0) t hi)) h)
theorem nearest_top_call {C_Heights : Addr} {p ps pr : Addr} {rows sums : List Int} {k : Nat} {t hi : Int} {h : DH} {Q : RK} (f1 : HeiAt C_Heights p ps pr rows sums h) (f2 : k < rows.length) (q : Q (.int (nearI (psum rows k) (psum rows k + rows.getD k 0) t hi)) h) : sp_nearest_top C_Heights [.ref p, .int (k : Int), .int t, .int hi] h Q := ⟨p, ps, pr, rows, sums, k, t, hi, rfl, f1, f2, q⟩

def winD (a b : Int) : D := .tup [.int a, .int b]
/-- the places from a up to b that are not from c up to d -/
def outF (a b c d : Int) : List Int := ((List.range (b - a).toNat).map fun k : Nat => a + (k : Int)).filter fun x => !(decide (c ≤ x) && decide (x < d))
def sp_come_and_gone (Ps : List Addr) : DSp := fun ds h Q => ∃ (a b c d : Int), ds = [winD a b, winD c d] ∧ (0 ≤ a) ∧ (a ≤ b) ∧ (b ≤ 100) ∧ (0 ≤ c) ∧ (c ≤ d) ∧ (d ≤ 100) ∧ (Tbs Ps h) ∧ (Q (.tup [.tup ((outF c d a b).map D.int), .tup ((outF a b c d).map D.int)]) h)
theorem come_and_gone_call {Ps : List Addr} {a b c d : Int} {h : DH} {Q : RK} (f1 : 0 ≤ a) (f2 : a ≤ b) (f3 : b ≤ 100) (f4 : 0 ≤ c) (f5 : c ≤ d) (f6 : d ≤ 100) (hT : Tbs Ps h) (q : Q (.tup [.tup ((outF c d a b).map D.int), .tup ((outF a b c d).map D.int)]) h) : sp_come_and_gone Ps [winD a b, winD c d] h Q := ⟨a, b, c, d, rfl, f1, f2, f3, f4, f5, f6, hT, q⟩

def sp_with_more : DSp := fun ds h Q => ∃ (a b m o : Int), ds = [winD a b, .int m, .int o] ∧ (Q (.tup [.int (max0 0 (a - o)), .int (min0 m (b + o))]) h)
theorem with_more_call {a b m o : Int} {h : DH} {Q : RK} (q : Q (.tup [.int (max0 0 (a - o)), .int (min0 m (b + o))]) h) : sp_with_more [winD a b, .int m, .int o] h Q := ⟨a, b, m, o, rfl, q⟩

def sp__wall : DSp := fun _ _ _ => False
def sp_Heights_shown (C_Heights : Addr) : DSp := fun _ _ _ => False

abbrev Flds_Heights (K : PySem.W.Frag) (C : Addr) : Prop := ∀ f ∈ (["rows", "sums"] : List Str), FldOk K C f
/-! ### _wall -/
abbrev s__wall : Stmt := top 0
abbrev N__wall : List Str := ["k"]
abbrev S__wall (G : Gc) : Sta := { G with N := N__wall, sc := defScope s__wall, k := 0, fn := fun _ => true }
theorem sc__wall : FnScope N__wall ["k"] (defScope s__wall) := ⟨rfl, rfl, rfl, by decide +kernel, rfl, by decide +kernel, by decide +kernel⟩
def t__wall (G : Gc) : RS :=
  (RWhileW [false] (rTruT (rC (.bl true))) rNext)
theorem d__wall {G : Gc} (T : Gx G) : DSs (S__wall G) (defBody s__wall) (t__wall G) := by
  have h : DSs (S__wall G) (defBody s__wall) _ :=
  (dss_one (ds_whileW [false] (dt_val de_bl (fun _ _ => rfl)) (dss_one ds_pass)))
  exact h
/-! ### low_part -/
abbrev s_low_part : Stmt := top 3
abbrev N_low_part : List Str := ["number", "found"]
abbrev S_low_part (G : Gc) : Sta := { G with N := N_low_part, sc := defScope s_low_part, k := 0, fn := fun _ => true }
theorem sc_low_part : FnScope N_low_part ["number"] (defScope s_low_part) := ⟨rfl, rfl, rfl, by decide +kernel, rfl, by decide +kernel, by decide +kernel⟩
def t_low_part (G : Gc) : RS :=
  (rSeq (rAsg (rC (.int 1)) (gNm 1))
    (rSeq (RWhileW [true, true] (rTest (rBin rEq (rBin rMod (rVar 0) (rBin rMulX (rC (.int 2)) (rVar 1))) (rC (.int 0)))) (rAug 1 (rC (.int 2)) rImul))
    (rRet (rVar 1))))
theorem d_low_part {G : Gc} (T : Gx G) : DSs (S_low_part G) (defBody s_low_part) (t_low_part G) := by
  have h : DSs (S_low_part G) (defBody s_low_part) _ :=
  (dss_cons (ds_asg de_int (dg_name (i := 1) (by kernel_rfl) (by kernel_rfl)) (fun _ => rfl) (fun _ => rfl) (fun _ => rfl))
    (dss_cons (ds_whileW [true, true] (dt_cmp od_eq (de_bin od_mod (de_var (i := 0) (by kernel_rfl) (by kernel_rfl)) (de_bin od_mulX de_int (de_var (i := 1) (by kernel_rfl) (by kernel_rfl)))) de_int (nomark _)) (dss_one (ds_aug (i := 1) iod_mul (by kernel_rfl) (by kernel_rfl) de_int)))
    (dss_one (ds_ret (de_var (i := 1) (by kernel_rfl) (by kernel_rfl))))))
  exact h
/-! ### with_more -/
abbrev s_with_more : Stmt := top 4
abbrev N_with_more : List Str := ["window", "many", "more"]
abbrev S_with_more (G : Gc) : Sta := { G with N := N_with_more, sc := defScope s_with_more, k := 0, fn := fun _ => true }
theorem sc_with_more : FnScope N_with_more ["window", "many", "more"] (defScope s_with_more) := ⟨rfl, rfl, rfl, by decide +kernel, rfl, by decide +kernel, by decide +kernel⟩
def t_with_more (G : Gc) : RS :=
  (rRet (rTup (rCons (rCall rMax2 (rCons (rC (.int 0)) (rCons (rBin rSub (rBin rIx (rVar 0) (rC (.int 0))) (rVar 2)) rNil))) (rCons (rCall rMin2 (rCons (rVar 1) (rCons (rBin rAdd (rBin rIx (rVar 0) (rC (.int 1))) (rVar 2)) rNil))) rNil))))
theorem d_with_more {G : Gc} (T : Gx G) : DSs (S_with_more G) (defBody s_with_more) (t_with_more G) := by
  have h : DSs (S_with_more G) (defBody s_with_more) _ :=
  (dss_one (ds_ret (de_tup (da_cons (de_callB (x := "max") cd_max2 (by kernel_rfl) T.z_max (by decide +kernel) (da_cons de_int (da_cons (de_bin od_sub (de_ix (de_var (i := 0) (by kernel_rfl) (by kernel_rfl)) de_int (fun _ _ => rfl)) (de_var (i := 2) (by kernel_rfl) (by kernel_rfl))) da_nil (fun _ => rfl)) (fun _ => rfl)) (fun _ => rfl) (fun _ => rfl)) (da_cons (de_callB (x := "min") cd_min2 (by kernel_rfl) T.z_min (by decide +kernel) (da_cons (de_var (i := 1) (by kernel_rfl) (by kernel_rfl)) (da_cons (de_bin od_add (de_ix (de_var (i := 0) (by kernel_rfl) (by kernel_rfl)) de_int (fun _ _ => rfl)) (de_var (i := 2) (by kernel_rfl) (by kernel_rfl))) da_nil (fun _ => rfl)) (fun _ => rfl)) (fun _ => rfl) (fun _ => rfl)) da_nil (fun _ => rfl)) (fun _ => rfl)))))
  exact h
/-! ### _law_cell -/
abbrev s__law_cell : Stmt := top 13
abbrev N__law_cell : List Str := ["script", "k"]
abbrev S__law_cell (G : Gc) : Sta := { G with N := N__law_cell, sc := defScope s__law_cell, k := 0, fn := fun _ => true }
theorem sc__law_cell : FnScope N__law_cell ["script", "k"] (defScope s__law_cell) := ⟨rfl, rfl, rfl, by decide +kernel, rfl, by decide +kernel, by decide +kernel⟩
def t__law_cell (G : Gc) : RS :=
  (rSeq (rIf (rTest (rBin rLt (rVar 1) (rCall rLen (rCons (rVar 0) rNil)))) (rRet (rBin rIx (rVar 0) (rVar 1))) rNext)
    (rRet (rC (.int 0))))
theorem d__law_cell {G : Gc} (T : Gx G) : DSs (S__law_cell G) (defBody s__law_cell) (t__law_cell G) := by
  have h : DSs (S__law_cell G) (defBody s__law_cell) _ :=
  (dss_cons (ds_if (dt_cmp od_lt (de_var (i := 1) (by kernel_rfl) (by kernel_rfl)) (de_callB (x := "len") cd_len (by kernel_rfl) T.z_len (by decide +kernel) (da_cons (de_var (i := 0) (by kernel_rfl) (by kernel_rfl)) da_nil (fun _ => rfl)) (fun _ => rfl) (fun _ => rfl)) (nomark _)) (dss_one (ds_ret (de_ix (de_var (i := 0) (by kernel_rfl) (by kernel_rfl)) (de_var (i := 1) (by kernel_rfl) (by kernel_rfl)) (fun _ _ => rfl)))) dss_nil)
    (dss_one (ds_ret de_int)))
  exact h
/-! ### _law_draw -/
abbrev s__law_draw : Stmt := top 14
abbrev N__law_draw : List Str := ["box", "many", "at"]
abbrev S__law_draw (G : Gc) : Sta := { G with N := N__law_draw, sc := defScope s__law_draw, k := 0, fn := fun _ => true }
theorem sc__law_draw : FnScope N__law_draw ["box", "many"] (defScope s__law_draw) := ⟨rfl, rfl, rfl, by decide +kernel, rfl, by decide +kernel, by decide +kernel⟩
def t__law_draw (G : Gc) : RS :=
  (rSeq (rAsg (rBin rIx (rVar 0) (rC (.int 1))) (gNm 2))
    (rSeq (rAsg (rBin rAdd (rVar 2) (rC (.int 1))) (gSubL (rVar 0) (rC (.int 1))))
    (rSeq (rIf (rTest (rBin rLt (rVar 2) (rCall rLen (rCons (rBin rIx (rVar 0) (rC (.int 0))) rNil)))) (rRet (rBin rMod (rCall rIntC (rCons (rBin rIx (rBin rIx (rVar 0) (rC (.int 0))) (rVar 2)) rNil)) (rVar 1))) rNext)
    (rRet (rC (.int 0))))))
theorem d__law_draw {G : Gc} (T : Gx G) : DSs (S__law_draw G) (defBody s__law_draw) (t__law_draw G) := by
  have h : DSs (S__law_draw G) (defBody s__law_draw) _ :=
  (dss_cons (ds_asg (de_ix (de_var (i := 0) (by kernel_rfl) (by kernel_rfl)) de_int (fun _ _ => rfl)) (dg_name (i := 2) (by kernel_rfl) (by kernel_rfl)) (fun _ => rfl) (fun _ => rfl) (fun _ => rfl))
    (dss_cons (ds_asg (de_bin od_add (de_var (i := 2) (by kernel_rfl) (by kernel_rfl)) de_int) (dg_sub (de_var (i := 0) (by kernel_rfl) (by kernel_rfl)) de_int (fun _ _ => rfl)) (fun _ => rfl) (fun _ => rfl) (fun _ => rfl))
    (dss_cons (ds_if (dt_cmp od_lt (de_var (i := 2) (by kernel_rfl) (by kernel_rfl)) (de_callB (x := "len") cd_len (by kernel_rfl) T.z_len (by decide +kernel) (da_cons (de_ix (de_var (i := 0) (by kernel_rfl) (by kernel_rfl)) de_int (fun _ _ => rfl)) da_nil (fun _ => rfl)) (fun _ => rfl) (fun _ => rfl)) (nomark _)) (dss_one (ds_ret (de_bin od_mod (de_callTy (x := "int") cd_int (by kernel_rfl) T.z_int (by decide +kernel) (da_cons (de_ix (de_ix (de_var (i := 0) (by kernel_rfl) (by kernel_rfl)) de_int (fun _ _ => rfl)) (de_var (i := 2) (by kernel_rfl) (by kernel_rfl)) (fun _ _ => rfl)) da_nil (fun _ => rfl)) (fun _ => rfl) (fun _ => rfl)) (de_var (i := 1) (by kernel_rfl) (by kernel_rfl))))) dss_nil)
    (dss_one (ds_ret de_int)))))
  exact h
/-! ### Heights_change -/
abbrev s_Heights_change : Stmt := inClass (top 2) 1
abbrev N_Heights_change : List Str := ["self", "place", "own", "by", "number"]
abbrev S_Heights_change (G : Gc) : Sta := { G with N := N_Heights_change, sc := defScope s_Heights_change, k := 1, fn := fun _ => true }
theorem sc_Heights_change : FnScope N_Heights_change ["self", "place", "own"] (defScope s_Heights_change) := ⟨rfl, rfl, rfl, by decide +kernel, rfl, by decide +kernel, by decide +kernel⟩
def t_Heights_change (G : Gc) (C_Heights : Addr) : RS :=
  (rSeq (rAsg (rBin rSub (rVar 2) (rBin rIx (rFld G.K (rVar 0) "rows") (rVar 1))) (gNm 3))
    (rSeq (rAsg (rVar 2) (gSubL (rFld G.K (rVar 0) "rows") (rVar 1)))
    (rSeq (rAsg (rBin rAdd (rVar 1) (rC (.int 1))) (gNm 4))
    (RWhileW [true, false, false, true, true] (rTest (rBin rLtX (rVar 4) (rCall rLen (rCons (rFld G.K (rVar 0) "sums") rNil)))) (rSeq (rAugS (rFld G.K (rVar 0) "sums") (rVar 4) (rVar 3) rIadd)
    (rAug 4 (rCall sp_low_part (rCons (rVar 4) rNil)) rIadd))))))
theorem d_Heights_change {G : Gc} (T : Gx G) {C_Heights : Addr} (F_low_part : DDef G "low_part" 1 sp_low_part) : DSs (S_Heights_change G) (defBody s_Heights_change) (t_Heights_change G C_Heights) := by
  have h : DSs (S_Heights_change G) (defBody s_Heights_change) _ :=
  (dss_cons (ds_asg (de_bin od_sub (de_var (i := 2) (by kernel_rfl) (by kernel_rfl)) (de_ix (de_fld (de_var (i := 0) (by kernel_rfl) (by kernel_rfl)) (fun _ => rfl)) (de_var (i := 1) (by kernel_rfl) (by kernel_rfl)) (fun _ _ => rfl))) (dg_name (i := 3) (by kernel_rfl) (by kernel_rfl)) (fun _ => rfl) (fun _ => rfl) (fun _ => rfl))
    (dss_cons (ds_asg (de_var (i := 2) (by kernel_rfl) (by kernel_rfl)) (dg_sub (de_fld (de_var (i := 0) (by kernel_rfl) (by kernel_rfl)) (fun _ => rfl)) (de_var (i := 1) (by kernel_rfl) (by kernel_rfl)) (fun _ _ => rfl)) (fun _ => rfl) (fun _ => rfl) (fun _ => rfl))
    (dss_cons (ds_asg (de_bin od_add (de_var (i := 1) (by kernel_rfl) (by kernel_rfl)) de_int) (dg_name (i := 4) (by kernel_rfl) (by kernel_rfl)) (fun _ => rfl) (fun _ => rfl) (fun _ => rfl))
    (dss_one (ds_whileW [true, false, false, true, true] (dt_cmp od_ltX (de_var (i := 4) (by kernel_rfl) (by kernel_rfl)) (de_callB (x := "len") cd_len (by kernel_rfl) T.z_len (by decide +kernel) (da_cons (de_fld (de_var (i := 0) (by kernel_rfl) (by kernel_rfl)) (fun _ => rfl)) da_nil (fun _ => rfl)) (fun _ => rfl) (fun _ => rfl)) (nomark _)) (dss_cons (ds_augS iod_add (de_fld (de_var (i := 0) (by kernel_rfl) (by kernel_rfl)) (fun _ => rfl)) (de_var (i := 4) (by kernel_rfl) (by kernel_rfl)) (de_var (i := 3) (by kernel_rfl) (by kernel_rfl)) (fun _ _ _ => rfl))
    (dss_one (ds_aug (i := 4) iod_add (by kernel_rfl) (by kernel_rfl) (de_call F_low_part (show 1 ≤ 1 by decide) (by kernel_rfl) (da_cons (de_var (i := 4) (by kernel_rfl) (by kernel_rfl)) da_nil (fun _ => rfl)) (fun _ => rfl) (fun _ => rfl))))))))))
  exact h
/-! ### Heights_top -/
abbrev s_Heights_top : Stmt := inClass (top 2) 2
abbrev N_Heights_top : List Str := ["self", "place", "found"]
abbrev S_Heights_top (G : Gc) : Sta := { G with N := N_Heights_top, sc := defScope s_Heights_top, k := 1, fn := fun _ => true }
theorem sc_Heights_top : FnScope N_Heights_top ["self", "place"] (defScope s_Heights_top) := ⟨rfl, rfl, rfl, by decide +kernel, rfl, by decide +kernel, by decide +kernel⟩
def t_Heights_top (G : Gc) (C_Heights : Addr) : RS :=
  (rSeq (rAsg (rC (.int 0)) (gNm 2))
    (rSeq (RWhileW [true, true, true] (rTest (rBin rGtX (rVar 1) (rC (.int 0)))) (rSeq (rAug 2 (rBin rIx (rFld G.K (rVar 0) "sums") (rVar 1)) rIadd)
    (rAug 1 (rCall sp_low_part (rCons (rVar 1) rNil)) rIsub)))
    (rRet (rVar 2))))
theorem d_Heights_top {G : Gc} (T : Gx G) {C_Heights : Addr} (F_low_part : DDef G "low_part" 1 sp_low_part) : DSs (S_Heights_top G) (defBody s_Heights_top) (t_Heights_top G C_Heights) := by
  have h : DSs (S_Heights_top G) (defBody s_Heights_top) _ :=
  (dss_cons (ds_asg de_int (dg_name (i := 2) (by kernel_rfl) (by kernel_rfl)) (fun _ => rfl) (fun _ => rfl) (fun _ => rfl))
    (dss_cons (ds_whileW [true, true, true] (dt_cmp od_gtX (de_var (i := 1) (by kernel_rfl) (by kernel_rfl)) de_int (nomark _)) (dss_cons (ds_aug (i := 2) iod_add (by kernel_rfl) (by kernel_rfl) (de_ix (de_fld (de_var (i := 0) (by kernel_rfl) (by kernel_rfl)) (fun _ => rfl)) (de_var (i := 1) (by kernel_rfl) (by kernel_rfl)) (fun _ _ => rfl)))
    (dss_one (ds_aug (i := 1) iod_sub (by kernel_rfl) (by kernel_rfl) (de_call F_low_part (show 1 ≤ 1 by decide) (by kernel_rfl) (da_cons (de_var (i := 1) (by kernel_rfl) (by kernel_rfl)) da_nil (fun _ => rfl)) (fun _ => rfl) (fun _ => rfl))))))
    (dss_one (ds_ret (de_var (i := 2) (by kernel_rfl) (by kernel_rfl))))))
  exact h
/-! ### Heights_shown -/
abbrev s_Heights_shown : Stmt := inClass (top 2) 5
abbrev N_Heights_shown : List Str := ["self", "top", "high"]
abbrev S_Heights_shown (G : Gc) : Sta := { G with N := N_Heights_shown, sc := defScope s_Heights_shown, k := 1, fn := fun _ => true }
theorem sc_Heights_shown : FnScope N_Heights_shown ["self", "top", "high"] (defScope s_Heights_shown) := ⟨rfl, rfl, rfl, by decide +kernel, rfl, by decide +kernel, by decide +kernel⟩
def t_Heights_shown (G : Gc) (C_Heights : Addr) : RS :=
  (rDrop (rCall sp__wall (rCons (rC (.int 0)) rNil)))
theorem d_Heights_shown {G : Gc} (T : Gx G) {C_Heights : Addr} (F__wall : DDef G "_wall" 1 sp__wall) : DSs (S_Heights_shown G) (defBody s_Heights_shown) (t_Heights_shown G C_Heights) := by
  have h : DSs (S_Heights_shown G) (defBody s_Heights_shown) _ :=
  (dss_one (ds_expr (de_call F__wall (show 1 ≤ 1 by decide) (by kernel_rfl) (da_cons de_int da_nil (fun _ => rfl)) (fun _ => rfl) (fun _ => rfl)) (fun _ => rfl)))
  exact h
/-! ### come_and_gone -/
abbrev s_come_and_gone : Stmt := top 5
abbrev N_come_and_gone : List Str := ["before", "after", "come", "place", "gone"]
abbrev S_come_and_gone (G : Gc) (P_come_and_gone : Addr) : Sta := { G with N := N_come_and_gone, sc := defScope s_come_and_gone, k := 1, fn := fun _ => true, tab := some P_come_and_gone }
theorem sc_come_and_gone : FnScope N_come_and_gone ["before", "after"] (defScope s_come_and_gone) := ⟨rfl, rfl, rfl, by decide +kernel, rfl, by decide +kernel, by decide +kernel⟩
def t_come_and_gone (G : Gc) (Ps : List Addr) (P_come_and_gone : Addr) : RS :=
  (rSeq (rAsg (rTupG (rRng2 (rCons (rBin rIx (rVar 1) (rC (.int 0))) (rCons (rBin rIx (rVar 1) (rC (.int 1))) rNil))) (gNm 3) (rNot (rTest (rChain rLeX rLtX (rBin rIx (rVar 0) (rC (.int 0))) (rVar 3) (rBin rIx (rVar 0) (rC (.int 1)))))) (rVar 3) [3] P_come_and_gone) (gNm 2))
    (rSeq (rAsg (rTupG (rRng2 (rCons (rBin rIx (rVar 0) (rC (.int 0))) (rCons (rBin rIx (rVar 0) (rC (.int 1))) rNil))) (gNm 3) (rNot (rTest (rChain rLeX rLtX (rBin rIx (rVar 1) (rC (.int 0))) (rVar 3) (rBin rIx (rVar 1) (rC (.int 1)))))) (rVar 3) [3] P_come_and_gone) (gNm 4))
    (rRet (rTup (rCons (rVar 2) (rCons (rVar 4) rNil))))))
theorem d_come_and_gone {G : Gc} (T : Gx G) {Ps : List Addr} {P_come_and_gone : Addr} : DSs (S_come_and_gone G P_come_and_gone) (defBody s_come_and_gone) (t_come_and_gone G Ps P_come_and_gone) := by
  have h : DSs (S_come_and_gone G P_come_and_gone) (defBody s_come_and_gone) _ :=
  (dss_cons (ds_asg (de_tupG (GenD.mk (k := 0) (own := [("place", 3)]) (show 0 + 1 ≤ 1 by decide) rfl (di_range2 (by kernel_rfl) T.z_range (da_cons (de_ix (de_var (i := 1) (by kernel_rfl) (by kernel_rfl)) de_int (fun _ _ => rfl)) (da_cons (de_ix (de_var (i := 1) (by kernel_rfl) (by kernel_rfl)) de_int (fun _ _ => rfl)) da_nil (fun _ => rfl)) (fun _ => rfl)) (fun _ => rfl) (fun _ => rfl)) (by kernel_rfl) (by kernel_rfl) rfl (by kernel_rfl) ⟨_, (dg_name (i := 3) (by kernel_rfl) (by kernel_rfl)), by decide⟩ (dts_one (dt_not (dt_chain od_leX od_ltX (de_ix (de_var (i := 0) (by kernel_rfl) (by kernel_rfl)) de_int (fun _ _ => rfl)) (de_var (i := 3) (by kernel_rfl) (by kernel_rfl)) (de_ix (de_var (i := 0) (by kernel_rfl) (by kernel_rfl)) de_int (fun _ _ => rfl)) (by with_unfolding_all rfl)))) (de_var (i := 3) (by kernel_rfl) (by kernel_rfl)) (fun _ _ => rfl)) (by kernel_rfl) T.z_tuple (by decide +kernel) (fun _ => rfl)) (dg_name (i := 2) (by kernel_rfl) (by kernel_rfl)) (fun _ => rfl) (fun _ => rfl) (fun _ => rfl))
    (dss_cons (ds_asg (de_tupG (GenD.mk (k := 0) (own := [("place", 3)]) (show 0 + 1 ≤ 1 by decide) rfl (di_range2 (by kernel_rfl) T.z_range (da_cons (de_ix (de_var (i := 0) (by kernel_rfl) (by kernel_rfl)) de_int (fun _ _ => rfl)) (da_cons (de_ix (de_var (i := 0) (by kernel_rfl) (by kernel_rfl)) de_int (fun _ _ => rfl)) da_nil (fun _ => rfl)) (fun _ => rfl)) (fun _ => rfl) (fun _ => rfl)) (by kernel_rfl) (by kernel_rfl) rfl (by kernel_rfl) ⟨_, (dg_name (i := 3) (by kernel_rfl) (by kernel_rfl)), by decide⟩ (dts_one (dt_not (dt_chain od_leX od_ltX (de_ix (de_var (i := 1) (by kernel_rfl) (by kernel_rfl)) de_int (fun _ _ => rfl)) (de_var (i := 3) (by kernel_rfl) (by kernel_rfl)) (de_ix (de_var (i := 1) (by kernel_rfl) (by kernel_rfl)) de_int (fun _ _ => rfl)) (by with_unfolding_all rfl)))) (de_var (i := 3) (by kernel_rfl) (by kernel_rfl)) (fun _ _ => rfl)) (by kernel_rfl) T.z_tuple (by decide +kernel) (fun _ => rfl)) (dg_name (i := 4) (by kernel_rfl) (by kernel_rfl)) (fun _ => rfl) (fun _ => rfl) (fun _ => rfl))
    (dss_one (ds_ret (de_tup (da_cons (de_var (i := 2) (by kernel_rfl) (by kernel_rfl)) (da_cons (de_var (i := 4) (by kernel_rfl) (by kernel_rfl)) da_nil (fun _ => rfl)) (fun _ => rfl)))))))
  exact h
/-! ### _law_digits -/
abbrev s__law_digits : Stmt := top 12
abbrev N__law_digits : List Str := ["script", "first", "last", "digits", "k", "cell", "turn", "seed"]
abbrev S__law_digits (G : Gc) : Sta := { G with N := N__law_digits, sc := defScope s__law_digits, k := 1, fn := fun _ => true }
theorem sc__law_digits : FnScope N__law_digits ["script", "first", "last"] (defScope s__law_digits) := ⟨rfl, rfl, rfl, by decide +kernel, rfl, by decide +kernel, by decide +kernel⟩
def t__law_digits (G : Gc) : RS :=
  (rSeq (rAsg (rLst rNil) (gNm 3))
    (rSeq (rFor (rRng2 (rCons (rVar 1) (rCons (rVar 2) rNil))) (gNm 4) (rSeq (rAsg (rCall sp__law_cell (rCons (rVar 0) (rCons (rVar 4) rNil))) (gNm 5))
    (rSeq (rIf (rTest (rBin rLt (rVar 5) (rC (.int 0)))) (rAsg (rBin rSub (rC (.int 1)) (rBin rMul (rC (.int 2)) (rVar 5))) (gNm 5)) rNext)
    (rIf (rTest (rBin rGe (rVar 5) (rBin rPow (rC (.int 10)) (rC (.int 18))))) (rFor (rRng1 (rCons (rC (.int 60)) rNil)) (gNm 6) (rIf (rTest (rBin rGt (rVar 5) (rC (.int 0)))) (rSeq (rDrop (rBM "list" rAppend (rVar 3) (rCons (rBin rMod (rCall rIntC (rCons (rVar 5) rNil)) (rC (.int 1000))) rNil)))
    (rAsg (rBin rFdiv (rVar 5) (rC (.int 1000))) (gNm 5))) rNext)) (rSeq (rAsg (rBin rMod (rCall rIntC (rCons (rBin rAdd (rBin rAdd (rBin rMul (rVar 5) (rC (.int 48271))) (rBin rMul (rVar 4) (rC (.int 69621)))) (rC (.int 11))) rNil)) (rC (.int 2147483647))) (gNm 7))
    (rFor (rRng1 (rCons (rC (.int 12)) rNil)) (gNm 6) (rSeq (rAsg (rBin rMod (rCall rIntC (rCons (rBin rAdd (rBin rAdd (rBin rMul (rVar 7) (rC (.int 16807))) (rBin rMul (rC (.int 7)) (rVar 6))) (rC (.int 1))) rNil)) (rC (.int 2147483647))) (gNm 7))
    (rDrop (rBM "list" rAppend (rVar 3) (rCons (rBin rMod (rCall rIntC (rCons (rBin rFdiv (rVar 7) (rC (.int 997))) rNil)) (rC (.int 1000))) rNil))))))))))
    (rRet (rVar 3))))
theorem d__law_digits {G : Gc} (T : Gx G) (F__law_cell : DDef G "_law_cell" 1 sp__law_cell) : DSs (S__law_digits G) (defBody s__law_digits) (t__law_digits G) := by
  have h : DSs (S__law_digits G) (defBody s__law_digits) _ :=
  (dss_cons (ds_asg (de_lst da_nil) (dg_name (i := 3) (by kernel_rfl) (by kernel_rfl)) (fun _ => rfl) (fun _ => rfl) (fun _ => rfl))
    (dss_cons (ds_for (di_range2 (by kernel_rfl) T.z_range (da_cons (de_var (i := 1) (by kernel_rfl) (by kernel_rfl)) (da_cons (de_var (i := 2) (by kernel_rfl) (by kernel_rfl)) da_nil (fun _ => rfl)) (fun _ => rfl)) (fun _ => rfl) (fun _ => rfl)) (dg_name (i := 4) (by kernel_rfl) (by kernel_rfl)) (dss_cons (ds_asg (de_call F__law_cell (show 1 ≤ 1 by decide) (by kernel_rfl) (da_cons (de_var (i := 0) (by kernel_rfl) (by kernel_rfl)) (da_cons (de_var (i := 4) (by kernel_rfl) (by kernel_rfl)) da_nil (fun _ => rfl)) (fun _ => rfl)) (fun _ => rfl) (fun _ => rfl)) (dg_name (i := 5) (by kernel_rfl) (by kernel_rfl)) (fun _ => rfl) (fun _ => rfl) (fun _ => rfl))
    (dss_cons (ds_if (dt_cmp od_lt (de_var (i := 5) (by kernel_rfl) (by kernel_rfl)) de_int (nomark _)) (dss_one (ds_asg (de_bin od_sub de_int (de_bin od_mul de_int (de_var (i := 5) (by kernel_rfl) (by kernel_rfl)))) (dg_name (i := 5) (by kernel_rfl) (by kernel_rfl)) (fun _ => rfl) (fun _ => rfl) (fun _ => rfl))) dss_nil)
    (dss_one (ds_if (dt_cmp od_ge (de_var (i := 5) (by kernel_rfl) (by kernel_rfl)) (de_bin od_pow de_int de_int) (nomark _)) (dss_one (ds_for (di_range1 (by kernel_rfl) T.z_range (da_cons de_int da_nil (fun _ => rfl)) (fun _ => rfl)) (dg_name (i := 6) (by kernel_rfl) (by kernel_rfl)) (dss_one (ds_if (dt_cmp od_gt (de_var (i := 5) (by kernel_rfl) (by kernel_rfl)) de_int (nomark _)) (dss_cons (ds_expr (de_bm PySem.F.plainAttrs_list PySem.F.slot_list_append PySem.F.type_list_append md_append (de_var (i := 3) (by kernel_rfl) (by kernel_rfl)) (da_cons (de_bin od_mod (de_callTy (x := "int") cd_int (by kernel_rfl) T.z_int (by decide +kernel) (da_cons (de_var (i := 5) (by kernel_rfl) (by kernel_rfl)) da_nil (fun _ => rfl)) (fun _ => rfl) (fun _ => rfl)) de_int) da_nil (fun _ => rfl)) (fun _ => rfl) (fun _ => rfl) rfl (fun _ => rfl) (fun _ => rfl)) (fun _ => rfl))
    (dss_one (ds_asg (de_bin od_fdiv (de_var (i := 5) (by kernel_rfl) (by kernel_rfl)) de_int) (dg_name (i := 5) (by kernel_rfl) (by kernel_rfl)) (fun _ => rfl) (fun _ => rfl) (fun _ => rfl)))) dss_nil)) (fun _ _ => rfl))) (dss_cons (ds_asg (de_bin od_mod (de_callTy (x := "int") cd_int (by kernel_rfl) T.z_int (by decide +kernel) (da_cons (de_bin od_add (de_bin od_add (de_bin od_mul (de_var (i := 5) (by kernel_rfl) (by kernel_rfl)) de_int) (de_bin od_mul (de_var (i := 4) (by kernel_rfl) (by kernel_rfl)) de_int)) de_int) da_nil (fun _ => rfl)) (fun _ => rfl) (fun _ => rfl)) de_int) (dg_name (i := 7) (by kernel_rfl) (by kernel_rfl)) (fun _ => rfl) (fun _ => rfl) (fun _ => rfl))
    (dss_one (ds_for (di_range1 (by kernel_rfl) T.z_range (da_cons de_int da_nil (fun _ => rfl)) (fun _ => rfl)) (dg_name (i := 6) (by kernel_rfl) (by kernel_rfl)) (dss_cons (ds_asg (de_bin od_mod (de_callTy (x := "int") cd_int (by kernel_rfl) T.z_int (by decide +kernel) (da_cons (de_bin od_add (de_bin od_add (de_bin od_mul (de_var (i := 7) (by kernel_rfl) (by kernel_rfl)) de_int) (de_bin od_mul de_int (de_var (i := 6) (by kernel_rfl) (by kernel_rfl)))) de_int) da_nil (fun _ => rfl)) (fun _ => rfl) (fun _ => rfl)) de_int) (dg_name (i := 7) (by kernel_rfl) (by kernel_rfl)) (fun _ => rfl) (fun _ => rfl) (fun _ => rfl))
    (dss_one (ds_expr (de_bm PySem.F.plainAttrs_list PySem.F.slot_list_append PySem.F.type_list_append md_append (de_var (i := 3) (by kernel_rfl) (by kernel_rfl)) (da_cons (de_bin od_mod (de_callTy (x := "int") cd_int (by kernel_rfl) T.z_int (by decide +kernel) (da_cons (de_bin od_fdiv (de_var (i := 7) (by kernel_rfl) (by kernel_rfl)) de_int) da_nil (fun _ => rfl)) (fun _ => rfl) (fun _ => rfl)) de_int) da_nil (fun _ => rfl)) (fun _ => rfl) (fun _ => rfl) rfl (fun _ => rfl) (fun _ => rfl)) (fun _ => rfl)))) (fun _ _ => rfl)))))))) (fun _ _ => rfl))
    (dss_one (ds_ret (de_var (i := 3) (by kernel_rfl) (by kernel_rfl))))))
  exact h
/-! ### Heights___init__ -/
abbrev s_Heights___init__ : Stmt := inClass (top 2) 0
abbrev N_Heights___init__ : List Str := ["self", "heights", "place", "own"]
abbrev S_Heights___init__ (G : Gc) : Sta := { G with N := N_Heights___init__, sc := defScope s_Heights___init__, k := 2, fn := fun _ => true }
theorem sc_Heights___init__ : FnScope N_Heights___init__ ["self", "heights"] (defScope s_Heights___init__) := ⟨rfl, rfl, rfl, by decide +kernel, rfl, by decide +kernel, by decide +kernel⟩
def t_Heights___init__ (G : Gc) (C_Heights : Addr) : RS :=
  (rSeq (rSetF G.K (rBin rMulX (rLst (rCons (rC (.int 0)) rNil)) (rBin rAdd (rCall rLen (rCons (rVar 1) rNil)) (rC (.int 1)))) (rVar 0) "sums")
    (rSeq (rSetF G.K (rBin rMulX (rLst (rCons (rC (.int 0)) rNil)) (rCall rLen (rCons (rVar 1) rNil))) (rVar 0) "rows")
    (RForW [true, true, false, false] (rEnum (rCons (rVar 1) rNil)) (gTu 2 (gsCons (gNm 2) (gsCons (gNm 3) gsNil))) (rDrop (rMeth C_Heights "change" (sp_Heights_change C_Heights) (rVar 0) (rCons (rVar 2) (rCons (rVar 3) rNil)))))))
theorem d_Heights___init__ {G : Gc} (T : Gx G) {C_Heights : Addr} (F_Heights_change : DMeth G C_Heights "change" 2 (sp_Heights_change C_Heights)) : DSs (S_Heights___init__ G) (defBody s_Heights___init__) (t_Heights___init__ G C_Heights) := by
  have h : DSs (S_Heights___init__ G) (defBody s_Heights___init__) _ :=
  (dss_cons (ds_setF (de_var (i := 0) (by kernel_rfl) (by kernel_rfl)) (de_bin od_mulX (de_lst (da_cons de_int da_nil (fun _ => rfl))) (de_bin od_add (de_callB (x := "len") cd_len (by kernel_rfl) T.z_len (by decide +kernel) (da_cons (de_var (i := 1) (by kernel_rfl) (by kernel_rfl)) da_nil (fun _ => rfl)) (fun _ => rfl) (fun _ => rfl)) de_int)) (fun _ => rfl))
    (dss_cons (ds_setF (de_var (i := 0) (by kernel_rfl) (by kernel_rfl)) (de_bin od_mulX (de_lst (da_cons de_int da_nil (fun _ => rfl))) (de_callB (x := "len") cd_len (by kernel_rfl) T.z_len (by decide +kernel) (da_cons (de_var (i := 1) (by kernel_rfl) (by kernel_rfl)) da_nil (fun _ => rfl)) (fun _ => rfl) (fun _ => rfl))) (fun _ => rfl))
    (dss_one (ds_forW [true, true, false, false] (di_enum (by kernel_rfl) T.z_enumerate (da_cons (de_var (i := 1) (by kernel_rfl) (by kernel_rfl)) da_nil (fun _ => rfl)) (fun _ => rfl)) (dg_tup (n := 2) (dgs_cons (dg_name (i := 2) (by kernel_rfl) (by kernel_rfl)) (dgs_cons (dg_name (i := 3) (by kernel_rfl) (by kernel_rfl)) dgs_nil (fun _ => rfl)) (fun _ => rfl)) (fun _ => rfl) (fun _ => rfl)) (dss_one (ds_expr (de_meth F_Heights_change (show 2 ≤ 2 by decide) (de_var (i := 0) (by kernel_rfl) (by kernel_rfl)) (da_cons (de_var (i := 2) (by kernel_rfl) (by kernel_rfl)) (da_cons (de_var (i := 3) (by kernel_rfl) (by kernel_rfl)) da_nil (fun _ => rfl)) (fun _ => rfl)) (fun _ => rfl) (fun _ => rfl) (fun _ => rfl)) (fun _ => rfl))) (fun _ _ => rfl)))))
  exact h
/-! ### Heights_total -/
abbrev s_Heights_total : Stmt := inClass (top 2) 3
abbrev N_Heights_total : List Str := ["self"]
abbrev S_Heights_total (G : Gc) : Sta := { G with N := N_Heights_total, sc := defScope s_Heights_total, k := 2, fn := fun _ => true }
theorem sc_Heights_total : FnScope N_Heights_total ["self"] (defScope s_Heights_total) := ⟨rfl, rfl, rfl, by decide +kernel, rfl, by decide +kernel, by decide +kernel⟩
def t_Heights_total (G : Gc) (C_Heights : Addr) : RS :=
  (rRet (rMeth C_Heights "top" (sp_Heights_top C_Heights) (rVar 0) (rCons (rCall rLen (rCons (rFld G.K (rVar 0) "rows") rNil)) rNil)))
theorem d_Heights_total {G : Gc} (T : Gx G) {C_Heights : Addr} (F_Heights_top : DMeth G C_Heights "top" 2 (sp_Heights_top C_Heights)) : DSs (S_Heights_total G) (defBody s_Heights_total) (t_Heights_total G C_Heights) := by
  have h : DSs (S_Heights_total G) (defBody s_Heights_total) _ :=
  (dss_one (ds_ret (de_meth F_Heights_top (show 2 ≤ 2 by decide) (de_var (i := 0) (by kernel_rfl) (by kernel_rfl)) (da_cons (de_callB (x := "len") cd_len (by kernel_rfl) T.z_len (by decide +kernel) (da_cons (de_fld (de_var (i := 0) (by kernel_rfl) (by kernel_rfl)) (fun _ => rfl)) da_nil (fun _ => rfl)) (fun _ => rfl) (fun _ => rfl)) da_nil (fun _ => rfl)) (fun _ => rfl) (fun _ => rfl) (fun _ => rfl))))
  exact h
/-! ### nearest_top -/
abbrev s_nearest_top : Stmt := top 9
abbrev N_nearest_top : List Str := ["heights", "place", "top", "high", "start", "end"]
abbrev S_nearest_top (G : Gc) : Sta := { G with N := N_nearest_top, sc := defScope s_nearest_top, k := 2, fn := fun _ => true }
theorem sc_nearest_top : FnScope N_nearest_top ["heights", "place", "top", "high"] (defScope s_nearest_top) := ⟨rfl, rfl, rfl, by decide +kernel, rfl, by decide +kernel, by decide +kernel⟩
def t_nearest_top (G : Gc) (C_Heights : Addr) : RS :=
  (rSeq (rAsg (rMeth C_Heights "top" (sp_Heights_top C_Heights) (rVar 0) (rCons (rVar 1) rNil)) (gNm 4))
    (rSeq (rAsg (rBin rAdd (rVar 4) (rBin rIx (rFld G.K (rVar 0) "rows") (rVar 1))) (gNm 5))
    (rSeq (rIf (rTest (rBin rGeX (rBin rIx (rFld G.K (rVar 0) "rows") (rVar 1)) (rVar 3))) (rRet (rCall rMax2 (rCons (rVar 4) (rCons (rCall rMin2 (rCons (rVar 2) (rCons (rBin rSub (rVar 5) (rVar 3)) rNil))) rNil)))) rNext)
    (rSeq (rIf (rTest (rBin rLtX (rVar 4) (rVar 2))) (rRet (rVar 4)) rNext)
    (rRet (rIfE (rTest (rBin rGtX (rVar 5) (rBin rAdd (rVar 2) (rVar 3)))) (rBin rSub (rVar 5) (rVar 3)) (rVar 2)))))))
theorem d_nearest_top {G : Gc} (T : Gx G) {C_Heights : Addr} (F_Heights_top : DMeth G C_Heights "top" 2 (sp_Heights_top C_Heights)) : DSs (S_nearest_top G) (defBody s_nearest_top) (t_nearest_top G C_Heights) := by
  have h : DSs (S_nearest_top G) (defBody s_nearest_top) _ :=
  (dss_cons (ds_asg (de_meth F_Heights_top (show 2 ≤ 2 by decide) (de_var (i := 0) (by kernel_rfl) (by kernel_rfl)) (da_cons (de_var (i := 1) (by kernel_rfl) (by kernel_rfl)) da_nil (fun _ => rfl)) (fun _ => rfl) (fun _ => rfl) (fun _ => rfl)) (dg_name (i := 4) (by kernel_rfl) (by kernel_rfl)) (fun _ => rfl) (fun _ => rfl) (fun _ => rfl))
    (dss_cons (ds_asg (de_bin od_add (de_var (i := 4) (by kernel_rfl) (by kernel_rfl)) (de_ix (de_fld (de_var (i := 0) (by kernel_rfl) (by kernel_rfl)) (fun _ => rfl)) (de_var (i := 1) (by kernel_rfl) (by kernel_rfl)) (fun _ _ => rfl))) (dg_name (i := 5) (by kernel_rfl) (by kernel_rfl)) (fun _ => rfl) (fun _ => rfl) (fun _ => rfl))
    (dss_cons (ds_if (dt_cmp od_geX (de_ix (de_fld (de_var (i := 0) (by kernel_rfl) (by kernel_rfl)) (fun _ => rfl)) (de_var (i := 1) (by kernel_rfl) (by kernel_rfl)) (fun _ _ => rfl)) (de_var (i := 3) (by kernel_rfl) (by kernel_rfl)) (nomark _)) (dss_one (ds_ret (de_callB (x := "max") cd_max2 (by kernel_rfl) T.z_max (by decide +kernel) (da_cons (de_var (i := 4) (by kernel_rfl) (by kernel_rfl)) (da_cons (de_callB (x := "min") cd_min2 (by kernel_rfl) T.z_min (by decide +kernel) (da_cons (de_var (i := 2) (by kernel_rfl) (by kernel_rfl)) (da_cons (de_bin od_sub (de_var (i := 5) (by kernel_rfl) (by kernel_rfl)) (de_var (i := 3) (by kernel_rfl) (by kernel_rfl))) da_nil (fun _ => rfl)) (fun _ => rfl)) (fun _ => rfl) (fun _ => rfl)) da_nil (fun _ => rfl)) (fun _ => rfl)) (fun _ => rfl) (fun _ => rfl)))) dss_nil)
    (dss_cons (ds_if (dt_cmp od_ltX (de_var (i := 4) (by kernel_rfl) (by kernel_rfl)) (de_var (i := 2) (by kernel_rfl) (by kernel_rfl)) (nomark _)) (dss_one (ds_ret (de_var (i := 4) (by kernel_rfl) (by kernel_rfl)))) dss_nil)
    (dss_one (ds_ret (de_if (dt_cmp od_gtX (de_var (i := 5) (by kernel_rfl) (by kernel_rfl)) (de_bin od_add (de_var (i := 2) (by kernel_rfl) (by kernel_rfl)) (de_var (i := 3) (by kernel_rfl) (by kernel_rfl))) (nomark _)) (de_bin od_sub (de_var (i := 5) (by kernel_rfl) (by kernel_rfl)) (de_var (i := 3) (by kernel_rfl) (by kernel_rfl))) (de_var (i := 2) (by kernel_rfl) (by kernel_rfl)))))))))
  exact h
/-! ### _law_box -/
abbrev s__law_box : Stmt := top 11
abbrev N__law_box : List Str := ["script", "first", "last"]
abbrev S__law_box (G : Gc) : Sta := { G with N := N__law_box, sc := defScope s__law_box, k := 2, fn := fun _ => true }
theorem sc__law_box : FnScope N__law_box ["script", "first", "last"] (defScope s__law_box) := ⟨rfl, rfl, rfl, by decide +kernel, rfl, by decide +kernel, by decide +kernel⟩
def t__law_box (G : Gc) : RS :=
  (rRet (rLst (rCons (rCall sp__law_digits (rCons (rVar 0) (rCons (rVar 1) (rCons (rVar 2) rNil)))) (rCons (rC (.int 0)) (rCons (rC (.int 0)) (rCons (rC (.int 0)) (rCons (rC (.int 0)) (rCons (rLst rNil) rNil))))))))
theorem d__law_box {G : Gc} (T : Gx G) (F__law_digits : DDef G "_law_digits" 2 sp__law_digits) : DSs (S__law_box G) (defBody s__law_box) (t__law_box G) := by
  have h : DSs (S__law_box G) (defBody s__law_box) _ :=
  (dss_one (ds_ret (de_lst (da_cons (de_call F__law_digits (show 2 ≤ 2 by decide) (by kernel_rfl) (da_cons (de_var (i := 0) (by kernel_rfl) (by kernel_rfl)) (da_cons (de_var (i := 1) (by kernel_rfl) (by kernel_rfl)) (da_cons (de_var (i := 2) (by kernel_rfl) (by kernel_rfl)) da_nil (fun _ => rfl)) (fun _ => rfl)) (fun _ => rfl)) (fun _ => rfl) (fun _ => rfl)) (da_cons de_int (da_cons de_int (da_cons de_int (da_cons de_int (da_cons (de_lst da_nil) da_nil (fun _ => rfl)) (fun _ => rfl)) (fun _ => rfl)) (fun _ => rfl)) (fun _ => rfl)) (fun _ => rfl)))))
  exact h
/-! ### Heights_lies_at -/
abbrev s_Heights_lies_at : Stmt := inClass (top 2) 4
abbrev N_Heights_lies_at : List Str := ["self", "offset", "place", "size"]
abbrev S_Heights_lies_at (G : Gc) : Sta := { G with N := N_Heights_lies_at, sc := defScope s_Heights_lies_at, k := 3, fn := fun _ => true }
theorem sc_Heights_lies_at : FnScope N_Heights_lies_at ["self", "offset"] (defScope s_Heights_lies_at) := ⟨rfl, rfl, rfl, by decide +kernel, rfl, by decide +kernel, by decide +kernel⟩
def t_Heights_lies_at (G : Gc) (C_Heights : Addr) : RS :=
  (rSeq (rIf (rOr (rTest (rBin rLtX (rVar 1) (rC (.int 0)))) (rTest (rBin rGeX (rVar 1) (rMeth C_Heights "total" (sp_Heights_total C_Heights) (rVar 0) rNil)))) (rRet (rC .non)) rNext)
    (rSeq (rAsg (rC (.int 0)) (gNm 2))
    (rSeq (rAsg (rC (.int 1)) (gNm 3))
    (rSeq (RWhileW [true, true, true, true] (rTest (rBin rLtX (rBin rMulX (rVar 3) (rC (.int 2))) (rCall rLen (rCons (rFld G.K (rVar 0) "sums") rNil)))) (rAug 3 (rC (.int 2)) rImul))
    (rSeq (RWhileW [true, true, true, true] (rTest (rBin rGtX (rVar 3) (rC (.int 0)))) (rSeq (rIf (rAnd (rTest (rBin rLtX (rBin rAdd (rVar 2) (rVar 3)) (rCall rLen (rCons (rFld G.K (rVar 0) "sums") rNil)))) (rTest (rBin rLeX (rBin rIx (rFld G.K (rVar 0) "sums") (rBin rAdd (rVar 2) (rVar 3))) (rVar 1)))) (rSeq (rAug 2 (rVar 3) rIadd)
    (rAug 1 (rBin rIx (rFld G.K (rVar 0) "sums") (rVar 2)) rIsub)) rNext)
    (rAug 3 (rC (.int 2)) rIfdiv)))
    (rRet (rVar 2)))))))
theorem d_Heights_lies_at {G : Gc} (T : Gx G) {C_Heights : Addr} (F_Heights_total : DMeth G C_Heights "total" 3 (sp_Heights_total C_Heights)) : DSs (S_Heights_lies_at G) (defBody s_Heights_lies_at) (t_Heights_lies_at G C_Heights) := by
  have h : DSs (S_Heights_lies_at G) (defBody s_Heights_lies_at) _ :=
  (dss_cons (ds_if (DW.dt (dw_or (dt_cmp od_ltX (de_var (i := 1) (by kernel_rfl) (by kernel_rfl)) de_int (nomark _)) (dw_or1 (dt_cmp od_geX (de_var (i := 1) (by kernel_rfl) (by kernel_rfl)) (de_meth0 F_Heights_total (show 3 ≤ 3 by decide) (de_var (i := 0) (by kernel_rfl) (by kernel_rfl)) (fun _ => rfl)) (nomark _))))) (dss_one (ds_ret de_non)) dss_nil)
    (dss_cons (ds_asg de_int (dg_name (i := 2) (by kernel_rfl) (by kernel_rfl)) (fun _ => rfl) (fun _ => rfl) (fun _ => rfl))
    (dss_cons (ds_asg de_int (dg_name (i := 3) (by kernel_rfl) (by kernel_rfl)) (fun _ => rfl) (fun _ => rfl) (fun _ => rfl))
    (dss_cons (ds_whileW [true, true, true, true] (dt_cmp od_ltX (de_bin od_mulX (de_var (i := 3) (by kernel_rfl) (by kernel_rfl)) de_int) (de_callB (x := "len") cd_len (by kernel_rfl) T.z_len (by decide +kernel) (da_cons (de_fld (de_var (i := 0) (by kernel_rfl) (by kernel_rfl)) (fun _ => rfl)) da_nil (fun _ => rfl)) (fun _ => rfl) (fun _ => rfl)) (nomark _)) (dss_one (ds_aug (i := 3) iod_mul (by kernel_rfl) (by kernel_rfl) de_int)))
    (dss_cons (ds_whileW [true, true, true, true] (dt_cmp od_gtX (de_var (i := 3) (by kernel_rfl) (by kernel_rfl)) de_int (nomark _)) (dss_cons (ds_if (DW.dt (dw_and (dt_cmp od_ltX (de_bin od_add (de_var (i := 2) (by kernel_rfl) (by kernel_rfl)) (de_var (i := 3) (by kernel_rfl) (by kernel_rfl))) (de_callB (x := "len") cd_len (by kernel_rfl) T.z_len (by decide +kernel) (da_cons (de_fld (de_var (i := 0) (by kernel_rfl) (by kernel_rfl)) (fun _ => rfl)) da_nil (fun _ => rfl)) (fun _ => rfl) (fun _ => rfl)) (nomark _)) (dw_and1 (dt_cmp od_leX (de_ix (de_fld (de_var (i := 0) (by kernel_rfl) (by kernel_rfl)) (fun _ => rfl)) (de_bin od_add (de_var (i := 2) (by kernel_rfl) (by kernel_rfl)) (de_var (i := 3) (by kernel_rfl) (by kernel_rfl))) (fun _ _ => rfl)) (de_var (i := 1) (by kernel_rfl) (by kernel_rfl)) (nomark _))))) (dss_cons (ds_aug (i := 2) iod_add (by kernel_rfl) (by kernel_rfl) (de_var (i := 3) (by kernel_rfl) (by kernel_rfl)))
    (dss_one (ds_aug (i := 1) iod_sub (by kernel_rfl) (by kernel_rfl) (de_ix (de_fld (de_var (i := 0) (by kernel_rfl) (by kernel_rfl)) (fun _ => rfl)) (de_var (i := 2) (by kernel_rfl) (by kernel_rfl)) (fun _ _ => rfl))))) dss_nil)
    (dss_one (ds_aug (i := 3) iod_fdiv (by kernel_rfl) (by kernel_rfl) de_int))))
    (dss_one (ds_ret (de_var (i := 2) (by kernel_rfl) (by kernel_rfl)))))))))
  exact h
/-! ### held_top -/
abbrev s_held_top : Stmt := top 7
abbrev N_held_top : List Str := ["heights", "place", "within", "high", "inside", "wanted"]
abbrev S_held_top (G : Gc) : Sta := { G with N := N_held_top, sc := defScope s_held_top, k := 3, fn := fun _ => true }
theorem sc_held_top : FnScope N_held_top ["heights", "place", "within", "high"] (defScope s_held_top) := ⟨rfl, rfl, rfl, by decide +kernel, rfl, by decide +kernel, by decide +kernel⟩
def t_held_top (G : Gc) (C_Heights : Addr) : RS :=
  (rSeq (rAsg (rIfE (rTruT (rFld G.K (rVar 0) "rows")) (rCall rMin2 (rCons (rVar 2) (rCons (rCall rMax2 (rCons (rC (.int 0)) (rCons (rBin rSub (rBin rIx (rFld G.K (rVar 0) "rows") (rVar 1)) (rC (.int 1))) rNil))) rNil))) (rC (.int 0))) (gNm 4))
    (rSeq (rAsg (rBin rAdd (rIfE (rTruT (rFld G.K (rVar 0) "rows")) (rMeth C_Heights "top" (sp_Heights_top C_Heights) (rVar 0) (rCons (rVar 1) rNil)) (rC (.int 0))) (rVar 4)) (gNm 5))
    (rRet (rCall rMax2 (rCons (rC (.int 0)) (rCons (rCall rMin2 (rCons (rVar 5) (rCons (rBin rSub (rMeth C_Heights "total" (sp_Heights_total C_Heights) (rVar 0) rNil) (rVar 3)) rNil))) rNil))))))
theorem d_held_top {G : Gc} (T : Gx G) {C_Heights : Addr} (F_Heights_top : DMeth G C_Heights "top" 2 (sp_Heights_top C_Heights)) (F_Heights_total : DMeth G C_Heights "total" 3 (sp_Heights_total C_Heights)) : DSs (S_held_top G) (defBody s_held_top) (t_held_top G C_Heights) := by
  have h : DSs (S_held_top G) (defBody s_held_top) _ :=
  (dss_cons (ds_asg (de_if (dt_val (de_fld (de_var (i := 0) (by kernel_rfl) (by kernel_rfl)) (fun _ => rfl)) (fun _ _ => rfl)) (de_callB (x := "min") cd_min2 (by kernel_rfl) T.z_min (by decide +kernel) (da_cons (de_var (i := 2) (by kernel_rfl) (by kernel_rfl)) (da_cons (de_callB (x := "max") cd_max2 (by kernel_rfl) T.z_max (by decide +kernel) (da_cons de_int (da_cons (de_bin od_sub (de_ix (de_fld (de_var (i := 0) (by kernel_rfl) (by kernel_rfl)) (fun _ => rfl)) (de_var (i := 1) (by kernel_rfl) (by kernel_rfl)) (fun _ _ => rfl)) de_int) da_nil (fun _ => rfl)) (fun _ => rfl)) (fun _ => rfl) (fun _ => rfl)) da_nil (fun _ => rfl)) (fun _ => rfl)) (fun _ => rfl) (fun _ => rfl)) de_int) (dg_name (i := 4) (by kernel_rfl) (by kernel_rfl)) (fun _ => rfl) (fun _ => rfl) (fun _ => rfl))
    (dss_cons (ds_asg (de_bin od_add (de_if (dt_val (de_fld (de_var (i := 0) (by kernel_rfl) (by kernel_rfl)) (fun _ => rfl)) (fun _ _ => rfl)) (de_meth F_Heights_top (show 2 ≤ 3 by decide) (de_var (i := 0) (by kernel_rfl) (by kernel_rfl)) (da_cons (de_var (i := 1) (by kernel_rfl) (by kernel_rfl)) da_nil (fun _ => rfl)) (fun _ => rfl) (fun _ => rfl) (fun _ => rfl)) de_int) (de_var (i := 4) (by kernel_rfl) (by kernel_rfl))) (dg_name (i := 5) (by kernel_rfl) (by kernel_rfl)) (fun _ => rfl) (fun _ => rfl) (fun _ => rfl))
    (dss_one (ds_ret (de_callB (x := "max") cd_max2 (by kernel_rfl) T.z_max (by decide +kernel) (da_cons de_int (da_cons (de_callB (x := "min") cd_min2 (by kernel_rfl) T.z_min (by decide +kernel) (da_cons (de_var (i := 5) (by kernel_rfl) (by kernel_rfl)) (da_cons (de_bin od_sub (de_meth0 F_Heights_total (show 3 ≤ 3 by decide) (de_var (i := 0) (by kernel_rfl) (by kernel_rfl)) (fun _ => rfl)) (de_var (i := 3) (by kernel_rfl) (by kernel_rfl))) da_nil (fun _ => rfl)) (fun _ => rfl)) (fun _ => rfl) (fun _ => rfl)) da_nil (fun _ => rfl)) (fun _ => rfl)) (fun _ => rfl) (fun _ => rfl))))))
  exact h
/-! ### scrolled -/
abbrev s_scrolled : Stmt := top 8
abbrev N_scrolled : List Str := ["heights", "place", "high", "way", "top", "own", "wanted"]
abbrev S_scrolled (G : Gc) : Sta := { G with N := N_scrolled, sc := defScope s_scrolled, k := 3, fn := fun _ => true }
theorem sc_scrolled : FnScope N_scrolled ["heights", "place", "high", "way"] (defScope s_scrolled) := ⟨rfl, rfl, rfl, by decide +kernel, rfl, by decide +kernel, by decide +kernel⟩
def t_scrolled (G : Gc) (C_Heights : Addr) : RS :=
  (rSeq (rAsg (rMeth C_Heights "top" (sp_Heights_top C_Heights) (rVar 0) (rCons (rVar 1) rNil)) (gNm 4))
    (rSeq (rAsg (rBin rIx (rFld G.K (rVar 0) "rows") (rVar 1)) (gNm 5))
    (rSeq (rAsg (rDGet (rDisp (rpCons (rC (.str "start")) (rVar 4) (rpCons (rC (.str "end")) (rBin rSub (rBin rAdd (rVar 4) (rVar 5)) (rVar 2)) (rpCons (rC (.str "middle")) (rBin rSub (rBin rAdd (rVar 4) (rBin rFdiv (rVar 5) (rC (.int 2)))) (rBin rFdiv (rVar 2) (rC (.int 2)))) rpNil)))) (rVar 3)) (gNm 6))
    (rRet (rCall rMax2 (rCons (rC (.int 0)) (rCons (rCall rMin2 (rCons (rVar 6) (rCons (rBin rSub (rMeth C_Heights "total" (sp_Heights_total C_Heights) (rVar 0) rNil) (rVar 2)) rNil))) rNil)))))))
theorem d_scrolled {G : Gc} (T : Gx G) {C_Heights : Addr} (F_Heights_top : DMeth G C_Heights "top" 2 (sp_Heights_top C_Heights)) (F_Heights_total : DMeth G C_Heights "total" 3 (sp_Heights_total C_Heights)) : DSs (S_scrolled G) (defBody s_scrolled) (t_scrolled G C_Heights) := by
  have h : DSs (S_scrolled G) (defBody s_scrolled) _ :=
  (dss_cons (ds_asg (de_meth F_Heights_top (show 2 ≤ 3 by decide) (de_var (i := 0) (by kernel_rfl) (by kernel_rfl)) (da_cons (de_var (i := 1) (by kernel_rfl) (by kernel_rfl)) da_nil (fun _ => rfl)) (fun _ => rfl) (fun _ => rfl) (fun _ => rfl)) (dg_name (i := 4) (by kernel_rfl) (by kernel_rfl)) (fun _ => rfl) (fun _ => rfl) (fun _ => rfl))
    (dss_cons (ds_asg (de_ix (de_fld (de_var (i := 0) (by kernel_rfl) (by kernel_rfl)) (fun _ => rfl)) (de_var (i := 1) (by kernel_rfl) (by kernel_rfl)) (fun _ _ => rfl)) (dg_name (i := 5) (by kernel_rfl) (by kernel_rfl)) (fun _ => rfl) (fun _ => rfl) (fun _ => rfl))
    (dss_cons (ds_asg (de_dget (de_disp (dps_cons de_str (de_var (i := 4) (by kernel_rfl) (by kernel_rfl)) (dps_cons de_str (de_bin od_sub (de_bin od_add (de_var (i := 4) (by kernel_rfl) (by kernel_rfl)) (de_var (i := 5) (by kernel_rfl) (by kernel_rfl))) (de_var (i := 2) (by kernel_rfl) (by kernel_rfl))) (dps_cons de_str (de_bin od_sub (de_bin od_add (de_var (i := 4) (by kernel_rfl) (by kernel_rfl)) (de_bin od_fdiv (de_var (i := 5) (by kernel_rfl) (by kernel_rfl)) de_int)) (de_bin od_fdiv (de_var (i := 2) (by kernel_rfl) (by kernel_rfl)) de_int)) dps_nil))) rfl rfl (by simp) (by decide)) (de_var (i := 3) (by kernel_rfl) (by kernel_rfl)) (fun _ _ => rfl)) (dg_name (i := 6) (by kernel_rfl) (by kernel_rfl)) (fun _ => rfl) (fun _ => rfl) (fun _ => rfl))
    (dss_one (ds_ret (de_callB (x := "max") cd_max2 (by kernel_rfl) T.z_max (by decide +kernel) (da_cons de_int (da_cons (de_callB (x := "min") cd_min2 (by kernel_rfl) T.z_min (by decide +kernel) (da_cons (de_var (i := 6) (by kernel_rfl) (by kernel_rfl)) (da_cons (de_bin od_sub (de_meth0 F_Heights_total (show 3 ≤ 3 by decide) (de_var (i := 0) (by kernel_rfl) (by kernel_rfl)) (fun _ => rfl)) (de_var (i := 2) (by kernel_rfl) (by kernel_rfl))) da_nil (fun _ => rfl)) (fun _ => rfl)) (fun _ => rfl) (fun _ => rfl)) da_nil (fun _ => rfl)) (fun _ => rfl)) (fun _ => rfl) (fun _ => rfl)))))))
  exact h
/-! ### anchor -/
abbrev s_anchor : Stmt := top 6
abbrev N_anchor : List Str := ["heights", "top", "place"]
abbrev S_anchor (G : Gc) : Sta := { G with N := N_anchor, sc := defScope s_anchor, k := 4, fn := fun _ => true }
theorem sc_anchor : FnScope N_anchor ["heights", "top"] (defScope s_anchor) := ⟨rfl, rfl, rfl, by decide +kernel, rfl, by decide +kernel, by decide +kernel⟩
def t_anchor (G : Gc) (C_Heights : Addr) : RS :=
  (rSeq (rAsg (rMeth C_Heights "lies_at" (sp_Heights_lies_at C_Heights) (rVar 0) (rCons (rCall rMax2 (rCons (rC (.int 0)) (rCons (rVar 1) rNil))) rNil)) (gNm 2))
    (rRet (rIfE (rTest (rBin rIsN (rVar 2) (rC .non))) (rTup (rCons (rC (.int 0)) (rCons (rVar 1) rNil))) (rTup (rCons (rVar 2) (rCons (rBin rSub (rVar 1) (rMeth C_Heights "top" (sp_Heights_top C_Heights) (rVar 0) (rCons (rVar 2) rNil))) rNil))))))
theorem d_anchor {G : Gc} (T : Gx G) {C_Heights : Addr} (F_Heights_lies_at : DMeth G C_Heights "lies_at" 4 (sp_Heights_lies_at C_Heights)) (F_Heights_top : DMeth G C_Heights "top" 2 (sp_Heights_top C_Heights)) : DSs (S_anchor G) (defBody s_anchor) (t_anchor G C_Heights) := by
  have h : DSs (S_anchor G) (defBody s_anchor) _ :=
  (dss_cons (ds_asg (de_meth F_Heights_lies_at (show 4 ≤ 4 by decide) (de_var (i := 0) (by kernel_rfl) (by kernel_rfl)) (da_cons (de_callB (x := "max") cd_max2 (by kernel_rfl) T.z_max (by decide +kernel) (da_cons de_int (da_cons (de_var (i := 1) (by kernel_rfl) (by kernel_rfl)) da_nil (fun _ => rfl)) (fun _ => rfl)) (fun _ => rfl) (fun _ => rfl)) da_nil (fun _ => rfl)) (fun _ => rfl) (fun _ => rfl) (fun _ => rfl)) (dg_name (i := 2) (by kernel_rfl) (by kernel_rfl)) (fun _ => rfl) (fun _ => rfl) (fun _ => rfl))
    (dss_one (ds_ret (de_if (dt_cmp od_is (de_var (i := 2) (by kernel_rfl) (by kernel_rfl)) de_non (nomark _)) (de_tup (da_cons de_int (da_cons (de_var (i := 1) (by kernel_rfl) (by kernel_rfl)) da_nil (fun _ => rfl)) (fun _ => rfl))) (de_tup (da_cons (de_var (i := 2) (by kernel_rfl) (by kernel_rfl)) (da_cons (de_bin od_sub (de_var (i := 1) (by kernel_rfl) (by kernel_rfl)) (de_meth F_Heights_top (show 2 ≤ 4 by decide) (de_var (i := 0) (by kernel_rfl) (by kernel_rfl)) (da_cons (de_var (i := 2) (by kernel_rfl) (by kernel_rfl)) da_nil (fun _ => rfl)) (fun _ => rfl) (fun _ => rfl) (fun _ => rfl))) da_nil (fun _ => rfl)) (fun _ => rfl)))))))
  exact h
/-! ### _law_same -/
abbrev s__law_same : Stmt := top 15
abbrev N__law_same : List Str := ["actual", "expected", "k"]
abbrev S__law_same (G : Gc) (k : Nat) : Sta := { G with N := N__law_same, sc := defScope s__law_same, k := k, fn := fun _ => true }
theorem sc__law_same : FnScope N__law_same ["actual", "expected"] (defScope s__law_same) := ⟨rfl, rfl, rfl, by decide +kernel, rfl, by decide +kernel, by decide +kernel⟩
def t__law_same (G : Gc) (sp__law_same : DSp) : RS :=
  (rSeq (rIf (rTruT (rCall rIsi (rCons (rVar 1) (rCons (rC (.ty "tuple")) rNil)))) (rSeq (rIf (rOr (rNot (rTruT (rCall rIsi (rCons (rVar 0) (rCons (rC (.ty "tuple")) rNil))))) (rTest (rBin rNe (rCall rLen (rCons (rVar 0) rNil)) (rCall rLen (rCons (rVar 1) rNil))))) (rRet (rC (.bl false))) rNext)
    (rSeq (rFor (rRng1 (rCons (rCall rLen (rCons (rVar 1) rNil)) rNil)) (gNm 2) (rIf (rNot (rTruT (rCall sp__law_same (rCons (rBin rIx (rVar 0) (rVar 2)) (rCons (rBin rIx (rVar 1) (rVar 2)) rNil))))) (rRet (rC (.bl false))) rNext))
    (rRet (rC (.bl true))))) rNext)
    (rSeq (rIf (rTest (rBin rIsN (rVar 1) (rC .non))) (rRet (rBin rIsN (rVar 0) (rC .non))) rNext)
    (rSeq (rIf (rTruT (rCall rIsi (rCons (rVar 1) (rCons (rC (.ty "bool")) rNil)))) (rRet (rAndV (rCall rIsi (rCons (rVar 0) (rCons (rC (.ty "bool")) rNil))) (rBin rEq (rVar 0) (rVar 1)))) rNext)
    (rSeq (rIf (rTruT (rCall rIsi (rCons (rVar 1) (rCons (rC (.ty "int")) rNil)))) (rRet (rAndV (rCall rIsi (rCons (rVar 0) (rCons (rC (.ty "int")) rNil))) (rAndV (rNotV (rCall rIsi (rCons (rVar 0) (rCons (rC (.ty "bool")) rNil)))) (rBin rEq (rVar 0) (rVar 1))))) rNext)
    (rRet (rAndV (rCall rIsi (rCons (rVar 0) (rCons (rC (.ty "str")) rNil))) (rBin rEq (rVar 0) (rVar 1))))))))
theorem d__law_same {G : Gc} (T : Gx G) {k k__law_same : Nat} {sp__law_same : DSp} (hk : k__law_same ≤ k) (h0 : 0 ≤ k) (F__law_same : DDef G "_law_same" k__law_same sp__law_same) : DSs (S__law_same G k) (defBody s__law_same) (t__law_same G sp__law_same) := by
  have h : DSs (S__law_same G k) (defBody s__law_same) _ :=
  (dss_cons (ds_if (dt_val (de_callB (x := "isinstance") cd_isi (by kernel_rfl) T.z_isinstance (by decide +kernel) (da_cons (de_var (i := 1) (by kernel_rfl) (by kernel_rfl)) (da_cons (de_ty (x := "tuple") (T := "tuple") (by kernel_rfl) T.z_tuple (by decide +kernel)) da_nil (fun _ => rfl)) (fun _ => rfl)) (fun _ => rfl) (fun _ => rfl)) (fun _ _ => rfl)) (dss_cons (ds_if (DW.dt (dw_or (dt_not (dt_val (de_callB (x := "isinstance") cd_isi (by kernel_rfl) T.z_isinstance (by decide +kernel) (da_cons (de_var (i := 0) (by kernel_rfl) (by kernel_rfl)) (da_cons (de_ty (x := "tuple") (T := "tuple") (by kernel_rfl) T.z_tuple (by decide +kernel)) da_nil (fun _ => rfl)) (fun _ => rfl)) (fun _ => rfl) (fun _ => rfl)) (fun _ _ => rfl))) (dw_or1 (dt_cmp od_ne (de_callB (x := "len") cd_len (by kernel_rfl) T.z_len (by decide +kernel) (da_cons (de_var (i := 0) (by kernel_rfl) (by kernel_rfl)) da_nil (fun _ => rfl)) (fun _ => rfl) (fun _ => rfl)) (de_callB (x := "len") cd_len (by kernel_rfl) T.z_len (by decide +kernel) (da_cons (de_var (i := 1) (by kernel_rfl) (by kernel_rfl)) da_nil (fun _ => rfl)) (fun _ => rfl) (fun _ => rfl)) (nomark _))))) (dss_one (ds_ret de_bl)) dss_nil)
    (dss_cons (ds_for (di_range1 (by kernel_rfl) T.z_range (da_cons (de_callB (x := "len") cd_len (by kernel_rfl) T.z_len (by decide +kernel) (da_cons (de_var (i := 1) (by kernel_rfl) (by kernel_rfl)) da_nil (fun _ => rfl)) (fun _ => rfl) (fun _ => rfl)) da_nil (fun _ => rfl)) (fun _ => rfl)) (dg_name (i := 2) (by kernel_rfl) (by kernel_rfl)) (dss_one (ds_if (dt_not (dt_val (de_call F__law_same hk (by kernel_rfl) (da_cons (de_ix (de_var (i := 0) (by kernel_rfl) (by kernel_rfl)) (de_var (i := 2) (by kernel_rfl) (by kernel_rfl)) (fun _ _ => rfl)) (da_cons (de_ix (de_var (i := 1) (by kernel_rfl) (by kernel_rfl)) (de_var (i := 2) (by kernel_rfl) (by kernel_rfl)) (fun _ _ => rfl)) da_nil (fun _ => rfl)) (fun _ => rfl)) (fun _ => rfl) (fun _ => rfl)) (fun _ _ => rfl))) (dss_one (ds_ret de_bl)) dss_nil)) (fun _ _ => rfl))
    (dss_one (ds_ret de_bl)))) dss_nil)
    (dss_cons (ds_if (dt_cmp od_is (de_var (i := 1) (by kernel_rfl) (by kernel_rfl)) de_non (nomark _)) (dss_one (ds_ret (de_cmp od_is (de_var (i := 0) (by kernel_rfl) (by kernel_rfl)) de_non (nomark _)))) dss_nil)
    (dss_cons (ds_if (dt_val (de_callB (x := "isinstance") cd_isi (by kernel_rfl) T.z_isinstance (by decide +kernel) (da_cons (de_var (i := 1) (by kernel_rfl) (by kernel_rfl)) (da_cons (de_ty (x := "bool") (T := "bool") (by kernel_rfl) T.z_bool (by decide +kernel)) da_nil (fun _ => rfl)) (fun _ => rfl)) (fun _ => rfl) (fun _ => rfl)) (fun _ _ => rfl)) (dss_one (ds_ret (de_and (de_callB (x := "isinstance") cd_isi (by kernel_rfl) T.z_isinstance (by decide +kernel) (da_cons (de_var (i := 0) (by kernel_rfl) (by kernel_rfl)) (da_cons (de_ty (x := "bool") (T := "bool") (by kernel_rfl) T.z_bool (by decide +kernel)) da_nil (fun _ => rfl)) (fun _ => rfl)) (fun _ => rfl) (fun _ => rfl)) (de_one (de_cmp od_eq (de_var (i := 0) (by kernel_rfl) (by kernel_rfl)) (de_var (i := 1) (by kernel_rfl) (by kernel_rfl)) (nomark _)))))) dss_nil)
    (dss_cons (ds_if (dt_val (de_callB (x := "isinstance") cd_isi (by kernel_rfl) T.z_isinstance (by decide +kernel) (da_cons (de_var (i := 1) (by kernel_rfl) (by kernel_rfl)) (da_cons (de_ty (x := "int") (T := "int") (by kernel_rfl) T.z_int (by decide +kernel)) da_nil (fun _ => rfl)) (fun _ => rfl)) (fun _ => rfl) (fun _ => rfl)) (fun _ _ => rfl)) (dss_one (ds_ret (de_and (de_callB (x := "isinstance") cd_isi (by kernel_rfl) T.z_isinstance (by decide +kernel) (da_cons (de_var (i := 0) (by kernel_rfl) (by kernel_rfl)) (da_cons (de_ty (x := "int") (T := "int") (by kernel_rfl) T.z_int (by decide +kernel)) da_nil (fun _ => rfl)) (fun _ => rfl)) (fun _ => rfl) (fun _ => rfl)) (de_and (de_not (de_callB (x := "isinstance") cd_isi (by kernel_rfl) T.z_isinstance (by decide +kernel) (da_cons (de_var (i := 0) (by kernel_rfl) (by kernel_rfl)) (da_cons (de_ty (x := "bool") (T := "bool") (by kernel_rfl) T.z_bool (by decide +kernel)) da_nil (fun _ => rfl)) (fun _ => rfl)) (fun _ => rfl) (fun _ => rfl))) (de_one (de_cmp od_eq (de_var (i := 0) (by kernel_rfl) (by kernel_rfl)) (de_var (i := 1) (by kernel_rfl) (by kernel_rfl)) (nomark _))))))) dss_nil)
    (dss_one (ds_ret (de_and (de_callB (x := "isinstance") cd_isi (by kernel_rfl) T.z_isinstance (by decide +kernel) (da_cons (de_var (i := 0) (by kernel_rfl) (by kernel_rfl)) (da_cons (de_ty (x := "str") (T := "str") (by kernel_rfl) T.z_str (by decide +kernel)) da_nil (fun _ => rfl)) (fun _ => rfl)) (fun _ => rfl) (fun _ => rfl)) (de_one (de_cmp od_eq (de_var (i := 0) (by kernel_rfl) (by kernel_rfl)) (de_var (i := 1) (by kernel_rfl) (by kernel_rfl)) (nomark _))))))))))
  exact h
/-! ### law -/
abbrev s_law : Stmt := top 16
abbrev N_law : List Str := ["script", "box", "rows", "k", "work", "total", "high", "top", "place", "due", "within", "start", "wish", "way", "found", "best", "other", "shows", "key", "before", "after", "come", "gone", "more"]
abbrev S_law (G : Gc) : Sta := { G with N := N_law, sc := defScope s_law, k := 25, fn := fun _ => true }
theorem sc_law : FnScope N_law ["script"] (defScope s_law) := ⟨rfl, rfl, rfl, by decide +kernel, rfl, by decide +kernel, by decide +kernel⟩
def t_law (G : Gc) (C_Heights : Addr) (Ps : List Addr) : RS :=
  (rSeq (rAsg (rCall sp__law_box (rCons (rVar 0) (rCons (rC (.int 0)) (rCons (rC (.int 62)) rNil)))) (gNm 1))
    (rSeq (rAsg (rLcW (rRng1 (rCons (rBin rAdd (rC (.int 1)) (rCall sp__law_draw (rCons (rVar 1) (rCons (rC (.int 8)) rNil)))) rNil)) (gNm 3) rYes (rBin rAdd (rC (.int 1)) (rCall sp__law_draw (rCons (rVar 1) (rCons (rC (.int 8)) rNil)))) [3]) (gNm 2))
    (rSeq (rAsg (rMake C_Heights (sp_Heights___init__ C_Heights) (rCons (rCall rTupl (rCons (rVar 2) rNil)) rNil)) (gNm 4))
    (rSeq (rAsg (rCall rSumX (rCons (rVar 2) rNil)) (gNm 5))
    (rSeq (rAsg (rBin rAdd (rC (.int 1)) (rCall sp__law_draw (rCons (rVar 1) (rCons (rC (.int 20)) rNil)))) (gNm 6))
    (rSeq (rAsg (rCall sp__law_draw (rCons (rVar 1) (rCons (rBin rAdd (rVar 5) (rC (.int 4))) rNil))) (gNm 7))
    (rSeq (rAsg (rC .non) (gNm 8))
    (rSeq (RForW [false, true, true, false, true, true, true, true, true, false, false, false, false, false, false, false, false, false, false, false, false, false, false, false] (rRng1 (rCons (rCall rLen (rCons (rVar 2) rNil)) rNil)) (gNm 3) (rIf (rAnd (rTest (rBin rIsN (rVar 8) (rC .non))) (rAnd (rTest (rBin rLeX (rCall rSumX (rCons (rSlice (rVar 2) rNoPart (rPart (rVar 3))) rNil)) (rVar 7))) (rTest (rBin rLtX (rVar 7) (rCall rSumX (rCons (rSlice (rVar 2) rNoPart (rPart (rBin rAdd (rVar 3) (rC (.int 1))))) rNil)))))) (rAsg (rVar 3) (gNm 8)) rNext))
    (rSeq (rAsg (rTup (rCons (rC (.int 0)) (rCons (rVar 7) rNil))) (gNm 9))
    (RSeqC [false, true, true, false, true, true, true, true, false, true, false, false, false, false, false, false, false, false, false, false, false, false, false, false] (rIf (rTest (rBin rIsnot (rVar 8) (rC .non))) (rAsg (rTup (rCons (rVar 8) (rCons (rBin rSub (rVar 7) (rCall rSumX (rCons (rSlice (rVar 2) rNoPart (rPart (rVar 8))) rNil))) rNil))) (gNm 9)) rNext)
    (rSeq (rIf (rNot (rTruT (rCall sp__law_same (rCons (rCall (sp_anchor C_Heights) (rCons (rVar 4) (rCons (rVar 7) rNil))) (rCons (rVar 9) rNil))))) (rRet (rC (.bl false))) rNext)
    (rSeq (rAsg (rCall sp__law_draw (rCons (rVar 1) (rCons (rCall rLen (rCons (rVar 2) rNil)) rNil))) (gNm 8))
    (rSeq (rAsg (rCall sp__law_draw (rCons (rVar 1) (rCons (rC (.int 9)) rNil))) (gNm 10))
    (rSeq (rAsg (rCall rSumX (rCons (rSlice (rVar 2) rNoPart (rPart (rVar 8))) rNil)) (gNm 11))
    (rSeq (rAsg (rBin rAdd (rVar 11) (rCall rMin2 (rCons (rVar 10) (rCons (rBin rSub (rBin rIx (rVar 2) (rVar 8)) (rC (.int 1))) rNil)))) (gNm 12))
    (rSeq (rIf (rNot (rTruT (rCall sp__law_same (rCons (rCall (sp_held_top C_Heights) (rCons (rVar 4) (rCons (rVar 8) (rCons (rVar 10) (rCons (rVar 6) rNil))))) (rCons (rCall rMax2 (rCons (rC (.int 0)) (rCons (rCall rMin2 (rCons (rVar 12) (rCons (rBin rSub (rVar 5) (rVar 6)) rNil))) rNil))) rNil))))) (rRet (rC (.bl false))) rNext)
    (rSeq (RForW [false, true, true, false, true, true, true, true, true, false, false, true, false, false, false, false, false, false, false, false, false, false, false, false] (rIter (rLst (rCons (rC (.str "start")) (rCons (rC (.str "end")) (rCons (rC (.str "middle")) rNil))))) (gNm 13) (rSeq (rAsg (rDGet (rDisp (rpCons (rC (.str "start")) (rVar 11) (rpCons (rC (.str "end")) (rBin rSub (rBin rAdd (rVar 11) (rBin rIx (rVar 2) (rVar 8))) (rVar 6)) (rpCons (rC (.str "middle")) (rBin rSub (rBin rAdd (rVar 11) (rBin rFdiv (rBin rIx (rVar 2) (rVar 8)) (rC (.int 2)))) (rBin rFdiv (rVar 6) (rC (.int 2)))) rpNil)))) (rVar 13)) (gNm 12))
    (rIf (rNot (rTruT (rCall sp__law_same (rCons (rCall (sp_scrolled C_Heights) (rCons (rVar 4) (rCons (rVar 8) (rCons (rVar 6) (rCons (rVar 13) rNil))))) (rCons (rCall rMax2 (rCons (rC (.int 0)) (rCons (rCall rMin2 (rCons (rVar 12) (rCons (rBin rSub (rVar 5) (rVar 6)) rNil))) rNil))) rNil))))) (rRet (rC (.bl false))) rNext)))
    (rSeq (rAsg (rCall (sp_nearest_top C_Heights) (rCons (rVar 4) (rCons (rVar 8) (rCons (rVar 7) (rCons (rVar 6) rNil))))) (gNm 14))
    (rSeq (rAsg (rC .non) (gNm 15))
    (rSeq (RForW [false, true, true, false, false, true, true, true, true, false, false, true, false, false, true, true, false, false, false, false, false, false, false, false] (rRng2 (rCons (rBin rSub (rC (.int 0)) (rC (.int 30))) (rCons (rBin rAdd (rVar 5) (rC (.int 30))) rNil))) (gNm 16) (rSeq (rAsg (rCall rMax2 (rCons (rC (.int 0)) (rCons (rBin rSub (rCall rMin2 (rCons (rBin rAdd (rVar 11) (rBin rIx (rVar 2) (rVar 8))) (rCons (rBin rAdd (rVar 16) (rVar 6)) rNil))) (rCall rMax2 (rCons (rVar 11) (rCons (rVar 16) rNil)))) rNil))) (gNm 17))
    (rSeq (rAsg (rTup (rCons (rBin rSub (rC (.int 0)) (rVar 17)) (rCons (rCall rAbs (rCons (rBin rSub (rVar 16) (rVar 7)) rNil)) (rCons (rVar 16) rNil)))) (gNm 18))
    (rIf (rOr (rTest (rBin rIsN (rVar 15) (rC .non))) (rTest (rBin rLtX (rVar 18) (rVar 15)))) (rAsg (rVar 18) (gNm 15)) rNext))))
    (rSeq (rIf (rNot (rTruT (rCall sp__law_same (rCons (rVar 14) (rCons (rBin rIx (rVar 15) (rC (.int 2))) rNil))))) (rRet (rC (.bl false))) rNext)
    (rSeq (rAsg (rTup (rCons (rCall sp__law_draw (rCons (rVar 1) (rCons (rC (.int 6)) rNil))) (rCons (rC (.int 0)) rNil))) (gNm 19))
    (rSeq (rAsg (rTup (rCons (rBin rIx (rVar 19) (rC (.int 0))) (rCons (rBin rAdd (rBin rIx (rVar 19) (rC (.int 0))) (rCall sp__law_draw (rCons (rVar 1) (rCons (rC (.int 5)) rNil)))) rNil))) (gNm 19))
    (rSeq (rAsg (rTup (rCons (rCall sp__law_draw (rCons (rVar 1) (rCons (rC (.int 6)) rNil))) (rCons (rC (.int 0)) rNil))) (gNm 20))
    (rSeq (rAsg (rTup (rCons (rBin rIx (rVar 20) (rC (.int 0))) (rCons (rBin rAdd (rBin rIx (rVar 20) (rC (.int 0))) (rCall sp__law_draw (rCons (rVar 1) (rCons (rC (.int 5)) rNil)))) rNil))) (gNm 20))
    (rSeq (rAsg (rLcW (rRng2 (rCons (rBin rIx (rVar 20) (rC (.int 0))) (rCons (rBin rIx (rVar 20) (rC (.int 1))) rNil))) (gNm 3) (rOr (rTest (rBin rLtX (rVar 3) (rBin rIx (rVar 19) (rC (.int 0))))) (rTest (rBin rGeX (rVar 3) (rBin rIx (rVar 19) (rC (.int 1)))))) (rVar 3) [3]) (gNm 21))
    (rSeq (rAsg (rLcW (rRng2 (rCons (rBin rIx (rVar 19) (rC (.int 0))) (rCons (rBin rIx (rVar 19) (rC (.int 1))) rNil))) (gNm 3) (rOr (rTest (rBin rLtX (rVar 3) (rBin rIx (rVar 20) (rC (.int 0))))) (rTest (rBin rGeX (rVar 3) (rBin rIx (rVar 20) (rC (.int 1)))))) (rVar 3) [3]) (gNm 22))
    (rSeq (rIf (rNot (rTruT (rCall sp__law_same (rCons (rCall (sp_come_and_gone Ps) (rCons (rVar 19) (rCons (rVar 20) rNil))) (rCons (rTup (rCons (rCall rTupl (rCons (rVar 21) rNil)) (rCons (rCall rTupl (rCons (rVar 22) rNil)) rNil))) rNil))))) (rRet (rC (.bl false))) rNext)
    (rSeq (rAsg (rCall sp__law_draw (rCons (rVar 1) (rCons (rC (.int 4)) rNil))) (gNm 23))
    (rRet (rCall sp__law_same (rCons (rCall sp_with_more (rCons (rVar 19) (rCons (rC (.int 9)) (rCons (rVar 23) rNil)))) (rCons (rTup (rCons (rCall rMax2 (rCons (rC (.int 0)) (rCons (rBin rSub (rBin rIx (rVar 19) (rC (.int 0))) (rVar 23)) rNil))) (rCons (rCall rMin2 (rCons (rC (.int 9)) (rCons (rBin rAdd (rBin rIx (rVar 19) (rC (.int 1))) (rVar 23)) rNil))) rNil))) rNil)))))))))))))))))))))))))))))))))
theorem d_law {G : Gc} (T : Gx G) {C_Heights : Addr} {Ps : List Addr} (F__law_box : DDef G "_law_box" 3 sp__law_box) (F__law_draw : DDef G "_law_draw" 1 sp__law_draw) (F_Heights___init__ : DMake G "Heights" C_Heights 3 (sp_Heights___init__ C_Heights)) (F__law_same : DDef G "_law_same" 25 sp__law_same) (F_anchor : DDef G "anchor" 5 (sp_anchor C_Heights)) (F_held_top : DDef G "held_top" 4 (sp_held_top C_Heights)) (F_scrolled : DDef G "scrolled" 4 (sp_scrolled C_Heights)) (F_nearest_top : DDef G "nearest_top" 3 (sp_nearest_top C_Heights)) (F_come_and_gone : DDef G "come_and_gone" 2 (sp_come_and_gone Ps)) (F_with_more : DDef G "with_more" 1 sp_with_more) : DSs (S_law G) (defBody s_law) (t_law G C_Heights Ps) := by
  have h : DSs (S_law G) (defBody s_law) _ :=
  (dss_cons (ds_asg (de_call F__law_box (show 3 ≤ 25 by decide) (by kernel_rfl) (da_cons (de_var (i := 0) (by kernel_rfl) (by kernel_rfl)) (da_cons de_int (da_cons de_int da_nil (fun _ => rfl)) (fun _ => rfl)) (fun _ => rfl)) (fun _ => rfl) (fun _ => rfl)) (dg_name (i := 1) (by kernel_rfl) (by kernel_rfl)) (fun _ => rfl) (fun _ => rfl) (fun _ => rfl))
    (dss_cons (ds_setLcW (i := 2) (own := [("k", 3)]) (by kernel_rfl) (by kernel_rfl) rfl (.inr trivial) (by kernel_rfl) rfl (di_range1 (by kernel_rfl) T.z_range (da_cons (de_bin od_add de_int (de_call F__law_draw (show 1 ≤ 25 by decide) (by kernel_rfl) (da_cons (de_var (i := 1) (by kernel_rfl) (by kernel_rfl)) (da_cons de_int da_nil (fun _ => rfl)) (fun _ => rfl)) (fun _ => rfl) (fun _ => rfl))) da_nil (fun _ => rfl)) (fun _ => rfl)) (by kernel_rfl) (dg_name (i := 3) (by kernel_rfl) (by kernel_rfl)) dts_nil (de_bin od_add de_int (de_call F__law_draw (show 1 ≤ 25 by decide) (by kernel_rfl) (da_cons (de_var (i := 1) (by kernel_rfl) (by kernel_rfl)) (da_cons de_int da_nil (fun _ => rfl)) (fun _ => rfl)) (fun _ => rfl) (fun _ => rfl))) (by decide) (fun _ _ => rfl))
    (dss_cons (ds_asg (de_make F_Heights___init__ (show 3 + 1 ≤ 25 by decide) (by kernel_rfl) (da_cons (de_callTy (x := "tuple") cd_tupl (by kernel_rfl) T.z_tuple (by decide +kernel) (da_cons (de_var (i := 2) (by kernel_rfl) (by kernel_rfl)) da_nil (fun _ => rfl)) (fun _ => rfl) (fun _ => rfl)) da_nil (fun _ => rfl)) (fun _ => rfl) (fun _ => rfl)) (dg_name (i := 4) (by kernel_rfl) (by kernel_rfl)) (fun _ => rfl) (fun _ => rfl) (fun _ => rfl))
    (dss_cons (ds_asg (de_callB (x := "sum") cd_sumX (by kernel_rfl) T.z_sum (by decide +kernel) (da_cons (de_var (i := 2) (by kernel_rfl) (by kernel_rfl)) da_nil (fun _ => rfl)) (fun _ => rfl) (fun _ => rfl)) (dg_name (i := 5) (by kernel_rfl) (by kernel_rfl)) (fun _ => rfl) (fun _ => rfl) (fun _ => rfl))
    (dss_cons (ds_asg (de_bin od_add de_int (de_call F__law_draw (show 1 ≤ 25 by decide) (by kernel_rfl) (da_cons (de_var (i := 1) (by kernel_rfl) (by kernel_rfl)) (da_cons de_int da_nil (fun _ => rfl)) (fun _ => rfl)) (fun _ => rfl) (fun _ => rfl))) (dg_name (i := 6) (by kernel_rfl) (by kernel_rfl)) (fun _ => rfl) (fun _ => rfl) (fun _ => rfl))
    (dss_cons (ds_asg (de_call F__law_draw (show 1 ≤ 25 by decide) (by kernel_rfl) (da_cons (de_var (i := 1) (by kernel_rfl) (by kernel_rfl)) (da_cons (de_bin od_add (de_var (i := 5) (by kernel_rfl) (by kernel_rfl)) de_int) da_nil (fun _ => rfl)) (fun _ => rfl)) (fun _ => rfl) (fun _ => rfl)) (dg_name (i := 7) (by kernel_rfl) (by kernel_rfl)) (fun _ => rfl) (fun _ => rfl) (fun _ => rfl))
    (dss_cons (ds_asg de_non (dg_name (i := 8) (by kernel_rfl) (by kernel_rfl)) (fun _ => rfl) (fun _ => rfl) (fun _ => rfl))
    (dss_cons (ds_forW [false, true, true, false, true, true, true, true, true, false, false, false, false, false, false, false, false, false, false, false, false, false, false, false] (di_range1 (by kernel_rfl) T.z_range (da_cons (de_callB (x := "len") cd_len (by kernel_rfl) T.z_len (by decide +kernel) (da_cons (de_var (i := 2) (by kernel_rfl) (by kernel_rfl)) da_nil (fun _ => rfl)) (fun _ => rfl) (fun _ => rfl)) da_nil (fun _ => rfl)) (fun _ => rfl)) (dg_name (i := 3) (by kernel_rfl) (by kernel_rfl)) (dss_one (ds_if (DW.dt (dw_and (dt_cmp od_is (de_var (i := 8) (by kernel_rfl) (by kernel_rfl)) de_non (nomark _)) (dw_and (dt_cmp od_leX (de_callB (x := "sum") cd_sumX (by kernel_rfl) T.z_sum (by decide +kernel) (da_cons (de_slice (de_var (i := 2) (by kernel_rfl) (by kernel_rfl)) do_none (do_some (de_var (i := 3) (by kernel_rfl) (by kernel_rfl)))) da_nil (fun _ => rfl)) (fun _ => rfl) (fun _ => rfl)) (de_var (i := 7) (by kernel_rfl) (by kernel_rfl)) (nomark _)) (dw_and1 (dt_cmp od_ltX (de_var (i := 7) (by kernel_rfl) (by kernel_rfl)) (de_callB (x := "sum") cd_sumX (by kernel_rfl) T.z_sum (by decide +kernel) (da_cons (de_slice (de_var (i := 2) (by kernel_rfl) (by kernel_rfl)) do_none (do_some (de_bin od_add (de_var (i := 3) (by kernel_rfl) (by kernel_rfl)) de_int))) da_nil (fun _ => rfl)) (fun _ => rfl) (fun _ => rfl)) (nomark _)))))) (dss_one (ds_asg (de_var (i := 3) (by kernel_rfl) (by kernel_rfl)) (dg_name (i := 8) (by kernel_rfl) (by kernel_rfl)) (fun _ => rfl) (fun _ => rfl) (fun _ => rfl))) dss_nil)) (fun _ _ => rfl))
    (dss_cons (ds_asg (de_tup (da_cons de_int (da_cons (de_var (i := 7) (by kernel_rfl) (by kernel_rfl)) da_nil (fun _ => rfl)) (fun _ => rfl))) (dg_name (i := 9) (by kernel_rfl) (by kernel_rfl)) (fun _ => rfl) (fun _ => rfl) (fun _ => rfl))
    (dss_consC [false, true, true, false, true, true, true, true, false, true, false, false, false, false, false, false, false, false, false, false, false, false, false, false] (ds_if (dt_cmp od_isnot (de_var (i := 8) (by kernel_rfl) (by kernel_rfl)) de_non (nomark _)) (dss_one (ds_asg (de_tup (da_cons (de_var (i := 8) (by kernel_rfl) (by kernel_rfl)) (da_cons (de_bin od_sub (de_var (i := 7) (by kernel_rfl) (by kernel_rfl)) (de_callB (x := "sum") cd_sumX (by kernel_rfl) T.z_sum (by decide +kernel) (da_cons (de_slice (de_var (i := 2) (by kernel_rfl) (by kernel_rfl)) do_none (do_some (de_var (i := 8) (by kernel_rfl) (by kernel_rfl)))) da_nil (fun _ => rfl)) (fun _ => rfl) (fun _ => rfl))) da_nil (fun _ => rfl)) (fun _ => rfl))) (dg_name (i := 9) (by kernel_rfl) (by kernel_rfl)) (fun _ => rfl) (fun _ => rfl) (fun _ => rfl))) dss_nil)
    (dss_cons (ds_if (dt_not (dt_val (de_call F__law_same (show 25 ≤ 25 by decide) (by kernel_rfl) (da_cons (de_call F_anchor (show 5 ≤ 25 by decide) (by kernel_rfl) (da_cons (de_var (i := 4) (by kernel_rfl) (by kernel_rfl)) (da_cons (de_var (i := 7) (by kernel_rfl) (by kernel_rfl)) da_nil (fun _ => rfl)) (fun _ => rfl)) (fun _ => rfl) (fun _ => rfl)) (da_cons (de_var (i := 9) (by kernel_rfl) (by kernel_rfl)) da_nil (fun _ => rfl)) (fun _ => rfl)) (fun _ => rfl) (fun _ => rfl)) (fun _ _ => rfl))) (dss_one (ds_ret de_bl)) dss_nil)
    (dss_cons (ds_asg (de_call F__law_draw (show 1 ≤ 25 by decide) (by kernel_rfl) (da_cons (de_var (i := 1) (by kernel_rfl) (by kernel_rfl)) (da_cons (de_callB (x := "len") cd_len (by kernel_rfl) T.z_len (by decide +kernel) (da_cons (de_var (i := 2) (by kernel_rfl) (by kernel_rfl)) da_nil (fun _ => rfl)) (fun _ => rfl) (fun _ => rfl)) da_nil (fun _ => rfl)) (fun _ => rfl)) (fun _ => rfl) (fun _ => rfl)) (dg_name (i := 8) (by kernel_rfl) (by kernel_rfl)) (fun _ => rfl) (fun _ => rfl) (fun _ => rfl))
    (dss_cons (ds_asg (de_call F__law_draw (show 1 ≤ 25 by decide) (by kernel_rfl) (da_cons (de_var (i := 1) (by kernel_rfl) (by kernel_rfl)) (da_cons de_int da_nil (fun _ => rfl)) (fun _ => rfl)) (fun _ => rfl) (fun _ => rfl)) (dg_name (i := 10) (by kernel_rfl) (by kernel_rfl)) (fun _ => rfl) (fun _ => rfl) (fun _ => rfl))
    (dss_cons (ds_asg (de_callB (x := "sum") cd_sumX (by kernel_rfl) T.z_sum (by decide +kernel) (da_cons (de_slice (de_var (i := 2) (by kernel_rfl) (by kernel_rfl)) do_none (do_some (de_var (i := 8) (by kernel_rfl) (by kernel_rfl)))) da_nil (fun _ => rfl)) (fun _ => rfl) (fun _ => rfl)) (dg_name (i := 11) (by kernel_rfl) (by kernel_rfl)) (fun _ => rfl) (fun _ => rfl) (fun _ => rfl))
    (dss_cons (ds_asg (de_bin od_add (de_var (i := 11) (by kernel_rfl) (by kernel_rfl)) (de_callB (x := "min") cd_min2 (by kernel_rfl) T.z_min (by decide +kernel) (da_cons (de_var (i := 10) (by kernel_rfl) (by kernel_rfl)) (da_cons (de_bin od_sub (de_ix (de_var (i := 2) (by kernel_rfl) (by kernel_rfl)) (de_var (i := 8) (by kernel_rfl) (by kernel_rfl)) (fun _ _ => rfl)) de_int) da_nil (fun _ => rfl)) (fun _ => rfl)) (fun _ => rfl) (fun _ => rfl))) (dg_name (i := 12) (by kernel_rfl) (by kernel_rfl)) (fun _ => rfl) (fun _ => rfl) (fun _ => rfl))
    (dss_cons (ds_if (dt_not (dt_val (de_call F__law_same (show 25 ≤ 25 by decide) (by kernel_rfl) (da_cons (de_call F_held_top (show 4 ≤ 25 by decide) (by kernel_rfl) (da_cons (de_var (i := 4) (by kernel_rfl) (by kernel_rfl)) (da_cons (de_var (i := 8) (by kernel_rfl) (by kernel_rfl)) (da_cons (de_var (i := 10) (by kernel_rfl) (by kernel_rfl)) (da_cons (de_var (i := 6) (by kernel_rfl) (by kernel_rfl)) da_nil (fun _ => rfl)) (fun _ => rfl)) (fun _ => rfl)) (fun _ => rfl)) (fun _ => rfl) (fun _ => rfl)) (da_cons (de_callB (x := "max") cd_max2 (by kernel_rfl) T.z_max (by decide +kernel) (da_cons de_int (da_cons (de_callB (x := "min") cd_min2 (by kernel_rfl) T.z_min (by decide +kernel) (da_cons (de_var (i := 12) (by kernel_rfl) (by kernel_rfl)) (da_cons (de_bin od_sub (de_var (i := 5) (by kernel_rfl) (by kernel_rfl)) (de_var (i := 6) (by kernel_rfl) (by kernel_rfl))) da_nil (fun _ => rfl)) (fun _ => rfl)) (fun _ => rfl) (fun _ => rfl)) da_nil (fun _ => rfl)) (fun _ => rfl)) (fun _ => rfl) (fun _ => rfl)) da_nil (fun _ => rfl)) (fun _ => rfl)) (fun _ => rfl) (fun _ => rfl)) (fun _ _ => rfl))) (dss_one (ds_ret de_bl)) dss_nil)
    (dss_cons (ds_forW [false, true, true, false, true, true, true, true, true, false, false, true, false, false, false, false, false, false, false, false, false, false, false, false] (di_val (de_lst (da_cons de_str (da_cons de_str (da_cons de_str da_nil (fun _ => rfl)) (fun _ => rfl)) (fun _ => rfl)))) (dg_name (i := 13) (by kernel_rfl) (by kernel_rfl)) (dss_cons (ds_asg (de_dget (de_disp (dps_cons de_str (de_var (i := 11) (by kernel_rfl) (by kernel_rfl)) (dps_cons de_str (de_bin od_sub (de_bin od_add (de_var (i := 11) (by kernel_rfl) (by kernel_rfl)) (de_ix (de_var (i := 2) (by kernel_rfl) (by kernel_rfl)) (de_var (i := 8) (by kernel_rfl) (by kernel_rfl)) (fun _ _ => rfl))) (de_var (i := 6) (by kernel_rfl) (by kernel_rfl))) (dps_cons de_str (de_bin od_sub (de_bin od_add (de_var (i := 11) (by kernel_rfl) (by kernel_rfl)) (de_bin od_fdiv (de_ix (de_var (i := 2) (by kernel_rfl) (by kernel_rfl)) (de_var (i := 8) (by kernel_rfl) (by kernel_rfl)) (fun _ _ => rfl)) de_int)) (de_bin od_fdiv (de_var (i := 6) (by kernel_rfl) (by kernel_rfl)) de_int)) dps_nil))) rfl rfl (by simp) (by decide)) (de_var (i := 13) (by kernel_rfl) (by kernel_rfl)) (fun _ _ => rfl)) (dg_name (i := 12) (by kernel_rfl) (by kernel_rfl)) (fun _ => rfl) (fun _ => rfl) (fun _ => rfl))
    (dss_one (ds_if (dt_not (dt_val (de_call F__law_same (show 25 ≤ 25 by decide) (by kernel_rfl) (da_cons (de_call F_scrolled (show 4 ≤ 25 by decide) (by kernel_rfl) (da_cons (de_var (i := 4) (by kernel_rfl) (by kernel_rfl)) (da_cons (de_var (i := 8) (by kernel_rfl) (by kernel_rfl)) (da_cons (de_var (i := 6) (by kernel_rfl) (by kernel_rfl)) (da_cons (de_var (i := 13) (by kernel_rfl) (by kernel_rfl)) da_nil (fun _ => rfl)) (fun _ => rfl)) (fun _ => rfl)) (fun _ => rfl)) (fun _ => rfl) (fun _ => rfl)) (da_cons (de_callB (x := "max") cd_max2 (by kernel_rfl) T.z_max (by decide +kernel) (da_cons de_int (da_cons (de_callB (x := "min") cd_min2 (by kernel_rfl) T.z_min (by decide +kernel) (da_cons (de_var (i := 12) (by kernel_rfl) (by kernel_rfl)) (da_cons (de_bin od_sub (de_var (i := 5) (by kernel_rfl) (by kernel_rfl)) (de_var (i := 6) (by kernel_rfl) (by kernel_rfl))) da_nil (fun _ => rfl)) (fun _ => rfl)) (fun _ => rfl) (fun _ => rfl)) da_nil (fun _ => rfl)) (fun _ => rfl)) (fun _ => rfl) (fun _ => rfl)) da_nil (fun _ => rfl)) (fun _ => rfl)) (fun _ => rfl) (fun _ => rfl)) (fun _ _ => rfl))) (dss_one (ds_ret de_bl)) dss_nil))) (fun _ _ => rfl))
    (dss_cons (ds_asg (de_call F_nearest_top (show 3 ≤ 25 by decide) (by kernel_rfl) (da_cons (de_var (i := 4) (by kernel_rfl) (by kernel_rfl)) (da_cons (de_var (i := 8) (by kernel_rfl) (by kernel_rfl)) (da_cons (de_var (i := 7) (by kernel_rfl) (by kernel_rfl)) (da_cons (de_var (i := 6) (by kernel_rfl) (by kernel_rfl)) da_nil (fun _ => rfl)) (fun _ => rfl)) (fun _ => rfl)) (fun _ => rfl)) (fun _ => rfl) (fun _ => rfl)) (dg_name (i := 14) (by kernel_rfl) (by kernel_rfl)) (fun _ => rfl) (fun _ => rfl) (fun _ => rfl))
    (dss_cons (ds_asg de_non (dg_name (i := 15) (by kernel_rfl) (by kernel_rfl)) (fun _ => rfl) (fun _ => rfl) (fun _ => rfl))
    (dss_cons (ds_forW [false, true, true, false, false, true, true, true, true, false, false, true, false, false, true, true, false, false, false, false, false, false, false, false] (di_range2 (by kernel_rfl) T.z_range (da_cons (de_bin od_sub de_int de_int) (da_cons (de_bin od_add (de_var (i := 5) (by kernel_rfl) (by kernel_rfl)) de_int) da_nil (fun _ => rfl)) (fun _ => rfl)) (fun _ => rfl) (fun _ => rfl)) (dg_name (i := 16) (by kernel_rfl) (by kernel_rfl)) (dss_cons (ds_asg (de_callB (x := "max") cd_max2 (by kernel_rfl) T.z_max (by decide +kernel) (da_cons de_int (da_cons (de_bin od_sub (de_callB (x := "min") cd_min2 (by kernel_rfl) T.z_min (by decide +kernel) (da_cons (de_bin od_add (de_var (i := 11) (by kernel_rfl) (by kernel_rfl)) (de_ix (de_var (i := 2) (by kernel_rfl) (by kernel_rfl)) (de_var (i := 8) (by kernel_rfl) (by kernel_rfl)) (fun _ _ => rfl))) (da_cons (de_bin od_add (de_var (i := 16) (by kernel_rfl) (by kernel_rfl)) (de_var (i := 6) (by kernel_rfl) (by kernel_rfl))) da_nil (fun _ => rfl)) (fun _ => rfl)) (fun _ => rfl) (fun _ => rfl)) (de_callB (x := "max") cd_max2 (by kernel_rfl) T.z_max (by decide +kernel) (da_cons (de_var (i := 11) (by kernel_rfl) (by kernel_rfl)) (da_cons (de_var (i := 16) (by kernel_rfl) (by kernel_rfl)) da_nil (fun _ => rfl)) (fun _ => rfl)) (fun _ => rfl) (fun _ => rfl))) da_nil (fun _ => rfl)) (fun _ => rfl)) (fun _ => rfl) (fun _ => rfl)) (dg_name (i := 17) (by kernel_rfl) (by kernel_rfl)) (fun _ => rfl) (fun _ => rfl) (fun _ => rfl))
    (dss_cons (ds_asg (de_tup (da_cons (de_bin od_sub de_int (de_var (i := 17) (by kernel_rfl) (by kernel_rfl))) (da_cons (de_callB (x := "abs") cd_abs (by kernel_rfl) T.z_abs (by decide +kernel) (da_cons (de_bin od_sub (de_var (i := 16) (by kernel_rfl) (by kernel_rfl)) (de_var (i := 7) (by kernel_rfl) (by kernel_rfl))) da_nil (fun _ => rfl)) (fun _ => rfl) (fun _ => rfl)) (da_cons (de_var (i := 16) (by kernel_rfl) (by kernel_rfl)) da_nil (fun _ => rfl)) (fun _ => rfl)) (fun _ => rfl))) (dg_name (i := 18) (by kernel_rfl) (by kernel_rfl)) (fun _ => rfl) (fun _ => rfl) (fun _ => rfl))
    (dss_one (ds_if (DW.dt (dw_or (dt_cmp od_is (de_var (i := 15) (by kernel_rfl) (by kernel_rfl)) de_non (nomark _)) (dw_or1 (dt_cmp od_ltX (de_var (i := 18) (by kernel_rfl) (by kernel_rfl)) (de_var (i := 15) (by kernel_rfl) (by kernel_rfl)) (nomark _))))) (dss_one (ds_asg (de_var (i := 18) (by kernel_rfl) (by kernel_rfl)) (dg_name (i := 15) (by kernel_rfl) (by kernel_rfl)) (fun _ => rfl) (fun _ => rfl) (fun _ => rfl))) dss_nil)))) (fun _ _ => rfl))
    (dss_cons (ds_if (dt_not (dt_val (de_call F__law_same (show 25 ≤ 25 by decide) (by kernel_rfl) (da_cons (de_var (i := 14) (by kernel_rfl) (by kernel_rfl)) (da_cons (de_ix (de_var (i := 15) (by kernel_rfl) (by kernel_rfl)) de_int (fun _ _ => rfl)) da_nil (fun _ => rfl)) (fun _ => rfl)) (fun _ => rfl) (fun _ => rfl)) (fun _ _ => rfl))) (dss_one (ds_ret de_bl)) dss_nil)
    (dss_cons (ds_asg (de_tup (da_cons (de_call F__law_draw (show 1 ≤ 25 by decide) (by kernel_rfl) (da_cons (de_var (i := 1) (by kernel_rfl) (by kernel_rfl)) (da_cons de_int da_nil (fun _ => rfl)) (fun _ => rfl)) (fun _ => rfl) (fun _ => rfl)) (da_cons de_int da_nil (fun _ => rfl)) (fun _ => rfl))) (dg_name (i := 19) (by kernel_rfl) (by kernel_rfl)) (fun _ => rfl) (fun _ => rfl) (fun _ => rfl))
    (dss_cons (ds_asg (de_tup (da_cons (de_ix (de_var (i := 19) (by kernel_rfl) (by kernel_rfl)) de_int (fun _ _ => rfl)) (da_cons (de_bin od_add (de_ix (de_var (i := 19) (by kernel_rfl) (by kernel_rfl)) de_int (fun _ _ => rfl)) (de_call F__law_draw (show 1 ≤ 25 by decide) (by kernel_rfl) (da_cons (de_var (i := 1) (by kernel_rfl) (by kernel_rfl)) (da_cons de_int da_nil (fun _ => rfl)) (fun _ => rfl)) (fun _ => rfl) (fun _ => rfl))) da_nil (fun _ => rfl)) (fun _ => rfl))) (dg_name (i := 19) (by kernel_rfl) (by kernel_rfl)) (fun _ => rfl) (fun _ => rfl) (fun _ => rfl))
    (dss_cons (ds_asg (de_tup (da_cons (de_call F__law_draw (show 1 ≤ 25 by decide) (by kernel_rfl) (da_cons (de_var (i := 1) (by kernel_rfl) (by kernel_rfl)) (da_cons de_int da_nil (fun _ => rfl)) (fun _ => rfl)) (fun _ => rfl) (fun _ => rfl)) (da_cons de_int da_nil (fun _ => rfl)) (fun _ => rfl))) (dg_name (i := 20) (by kernel_rfl) (by kernel_rfl)) (fun _ => rfl) (fun _ => rfl) (fun _ => rfl))
    (dss_cons (ds_asg (de_tup (da_cons (de_ix (de_var (i := 20) (by kernel_rfl) (by kernel_rfl)) de_int (fun _ _ => rfl)) (da_cons (de_bin od_add (de_ix (de_var (i := 20) (by kernel_rfl) (by kernel_rfl)) de_int (fun _ _ => rfl)) (de_call F__law_draw (show 1 ≤ 25 by decide) (by kernel_rfl) (da_cons (de_var (i := 1) (by kernel_rfl) (by kernel_rfl)) (da_cons de_int da_nil (fun _ => rfl)) (fun _ => rfl)) (fun _ => rfl) (fun _ => rfl))) da_nil (fun _ => rfl)) (fun _ => rfl))) (dg_name (i := 20) (by kernel_rfl) (by kernel_rfl)) (fun _ => rfl) (fun _ => rfl) (fun _ => rfl))
    (dss_cons (ds_setLcW (i := 21) (own := [("k", 3)]) (by kernel_rfl) (by kernel_rfl) rfl (.inr trivial) (by kernel_rfl) rfl (di_range2 (by kernel_rfl) T.z_range (da_cons (de_ix (de_var (i := 20) (by kernel_rfl) (by kernel_rfl)) de_int (fun _ _ => rfl)) (da_cons (de_ix (de_var (i := 20) (by kernel_rfl) (by kernel_rfl)) de_int (fun _ _ => rfl)) da_nil (fun _ => rfl)) (fun _ => rfl)) (fun _ => rfl) (fun _ => rfl)) (by kernel_rfl) (dg_name (i := 3) (by kernel_rfl) (by kernel_rfl)) (dts_one (DW.dt (dw_or (dt_cmp od_ltX (de_var (i := 3) (by kernel_rfl) (by kernel_rfl)) (de_ix (de_var (i := 19) (by kernel_rfl) (by kernel_rfl)) de_int (fun _ _ => rfl)) (nomark _)) (dw_or1 (dt_cmp od_geX (de_var (i := 3) (by kernel_rfl) (by kernel_rfl)) (de_ix (de_var (i := 19) (by kernel_rfl) (by kernel_rfl)) de_int (fun _ _ => rfl)) (nomark _)))))) (de_var (i := 3) (by kernel_rfl) (by kernel_rfl)) (by decide) (fun _ _ => rfl))
    (dss_cons (ds_setLcW (i := 22) (own := [("k", 3)]) (by kernel_rfl) (by kernel_rfl) rfl (.inr trivial) (by kernel_rfl) rfl (di_range2 (by kernel_rfl) T.z_range (da_cons (de_ix (de_var (i := 19) (by kernel_rfl) (by kernel_rfl)) de_int (fun _ _ => rfl)) (da_cons (de_ix (de_var (i := 19) (by kernel_rfl) (by kernel_rfl)) de_int (fun _ _ => rfl)) da_nil (fun _ => rfl)) (fun _ => rfl)) (fun _ => rfl) (fun _ => rfl)) (by kernel_rfl) (dg_name (i := 3) (by kernel_rfl) (by kernel_rfl)) (dts_one (DW.dt (dw_or (dt_cmp od_ltX (de_var (i := 3) (by kernel_rfl) (by kernel_rfl)) (de_ix (de_var (i := 20) (by kernel_rfl) (by kernel_rfl)) de_int (fun _ _ => rfl)) (nomark _)) (dw_or1 (dt_cmp od_geX (de_var (i := 3) (by kernel_rfl) (by kernel_rfl)) (de_ix (de_var (i := 20) (by kernel_rfl) (by kernel_rfl)) de_int (fun _ _ => rfl)) (nomark _)))))) (de_var (i := 3) (by kernel_rfl) (by kernel_rfl)) (by decide) (fun _ _ => rfl))
    (dss_cons (ds_if (dt_not (dt_val (de_call F__law_same (show 25 ≤ 25 by decide) (by kernel_rfl) (da_cons (de_call F_come_and_gone (show 2 ≤ 25 by decide) (by kernel_rfl) (da_cons (de_var (i := 19) (by kernel_rfl) (by kernel_rfl)) (da_cons (de_var (i := 20) (by kernel_rfl) (by kernel_rfl)) da_nil (fun _ => rfl)) (fun _ => rfl)) (fun _ => rfl) (fun _ => rfl)) (da_cons (de_tup (da_cons (de_callTy (x := "tuple") cd_tupl (by kernel_rfl) T.z_tuple (by decide +kernel) (da_cons (de_var (i := 21) (by kernel_rfl) (by kernel_rfl)) da_nil (fun _ => rfl)) (fun _ => rfl) (fun _ => rfl)) (da_cons (de_callTy (x := "tuple") cd_tupl (by kernel_rfl) T.z_tuple (by decide +kernel) (da_cons (de_var (i := 22) (by kernel_rfl) (by kernel_rfl)) da_nil (fun _ => rfl)) (fun _ => rfl) (fun _ => rfl)) da_nil (fun _ => rfl)) (fun _ => rfl))) da_nil (fun _ => rfl)) (fun _ => rfl)) (fun _ => rfl) (fun _ => rfl)) (fun _ _ => rfl))) (dss_one (ds_ret de_bl)) dss_nil)
    (dss_cons (ds_asg (de_call F__law_draw (show 1 ≤ 25 by decide) (by kernel_rfl) (da_cons (de_var (i := 1) (by kernel_rfl) (by kernel_rfl)) (da_cons de_int da_nil (fun _ => rfl)) (fun _ => rfl)) (fun _ => rfl) (fun _ => rfl)) (dg_name (i := 23) (by kernel_rfl) (by kernel_rfl)) (fun _ => rfl) (fun _ => rfl) (fun _ => rfl))
    (dss_one (ds_ret (de_call F__law_same (show 25 ≤ 25 by decide) (by kernel_rfl) (da_cons (de_call F_with_more (show 1 ≤ 25 by decide) (by kernel_rfl) (da_cons (de_var (i := 19) (by kernel_rfl) (by kernel_rfl)) (da_cons de_int (da_cons (de_var (i := 23) (by kernel_rfl) (by kernel_rfl)) da_nil (fun _ => rfl)) (fun _ => rfl)) (fun _ => rfl)) (fun _ => rfl) (fun _ => rfl)) (da_cons (de_tup (da_cons (de_callB (x := "max") cd_max2 (by kernel_rfl) T.z_max (by decide +kernel) (da_cons de_int (da_cons (de_bin od_sub (de_ix (de_var (i := 19) (by kernel_rfl) (by kernel_rfl)) de_int (fun _ _ => rfl)) (de_var (i := 23) (by kernel_rfl) (by kernel_rfl))) da_nil (fun _ => rfl)) (fun _ => rfl)) (fun _ => rfl) (fun _ => rfl)) (da_cons (de_callB (x := "min") cd_min2 (by kernel_rfl) T.z_min (by decide +kernel) (da_cons de_int (da_cons (de_bin od_add (de_ix (de_var (i := 19) (by kernel_rfl) (by kernel_rfl)) de_int (fun _ _ => rfl)) (de_var (i := 23) (by kernel_rfl) (by kernel_rfl))) da_nil (fun _ => rfl)) (fun _ => rfl)) (fun _ => rfl) (fun _ => rfl)) da_nil (fun _ => rfl)) (fun _ => rfl))) da_nil (fun _ => rfl)) (fun _ => rfl)) (fun _ => rfl) (fun _ => rfl)))))))))))))))))))))))))))))))))
  exact h
end K48
namespace K48
open PySem PySem.Spec PyProof.Rows L2 DL PySem.W
/-! ### steps -/
local macro_rules | `(tactic| walk_at "w") => `(tactic| with_reducible (conv => whnf))
local macro_rules | `(tactic| walk_at "nn") => `(tactic| first | with_reducible assumption | exact (dupd_none.mp (by with_reducible assumption)).2 | exact (dupd_none.mp (dupd_none.mp (by with_reducible assumption)).2).2 | exact (dupd_none.mp (dupd_none.mp (dupd_none.mp (by with_reducible assumption)).2).2).2 | (refine dupd_none.mpr ⟨?_, ?_⟩; (walk_at "ne"); (walk_at "nn")))
local macro_rules | `(tactic| walk_at "ne1") => `(tactic| first | with_reducible assumption | exact (dupd_none.mp (by with_reducible assumption)).1 | exact (dupd_none.mp (dupd_none.mp (by with_reducible assumption)).2).1 | exact (dupd_none.mp (dupd_none.mp (dupd_none.mp (by with_reducible assumption)).2).2).1 | exact ne_sn (by with_reducible assumption) (by walk_at "nn"))
local macro_rules | `(tactic| walk_at "ne") => `(tactic| first | (walk_at "ne1") | (apply Ne.symm; (walk_at "ne1")))
local macro_rules | `(tactic| walk_at "hl") => `(tactic| first | with_reducible assumption | exact dupd_same | (refine (dupd_ne ?_).trans ?_; (walk_at "ne"); (walk_at "hl")))
local macro_rules | `(tactic| walk_at "sub") => `(tactic| first | exact Sub.refl _ | with_reducible assumption | (refine Sub.up2 ?_ ?_; (walk_at "nn"); (walk_at "sub")))
local macro_rules | `(tactic| walk_at "sub2") => `(tactic| first | with_reducible assumption | exact Sub.refl _ | (refine Sub.up ?_ (by with_reducible assumption); (walk_at "sub2")) | (refine Sub.up ?_ (Sub.free (by assumption) (by walk_at "nn")); (walk_at "sub2")) | (refine Sub.up3 ?_ (by walk_at "nn"); (walk_at "sub2")))
local macro_rules | `(tactic| walk_at "ix") => `(tactic| first | exact atI_at (i := 0) rfl rfl | exact atI_at (i := 1) rfl rfl | exact atI_at (i := 2) rfl rfl | exact atI_at (i := 3) rfl rfl | exact atI_at (i := 4) rfl rfl | exact atI_at (i := 5) rfl rfl | exact atI_ints (by omega) (by omega) | exact atI_getD (by omega) (by omega) | exact atI_last (by first | assumption | exact List.length_pos_iff.mp (by omega)) | exact atI_intsN (by omega) (by omega) | exact atI_mapD rfl (by assumption) | exact atI_lt (by assumption) | exact ixN_at (i := 0) rfl (by simp) | exact ixN_at (i := 1) rfl (by simp) | exact ixN_at (i := 2) rfl (by simp) | exact ixN_at (i := 3) rfl (by simp) | fail "ix")
local macro_rules | `(tactic| walk_at "box") => `(tactic| first | assumption | (refine BoxAt.mk ?_; assumption) | (refine BoxAt.up ?_ ?_; (walk_at "box"); (walk_at "nn")) | (apply BoxAt.wr; (walk_at "box"); (walk_at "hl")))
local macro_rules | `(tactic| walk_at "tb") => `(tactic| first | with_reducible assumption | (refine Tbs.up ?_ ?_; (walk_at "tb"); (walk_at "nn")) | (apply Tbs.wr; (walk_at "tb"); (walk_at "hl"); (intro z; cases z)))
local macro_rules | `(tactic| walk_at "dat") => `(tactic| first | assumption | exact dat_tup (dats_ints _ _) | decide +kernel | (simp [dat, dats]; done) | (simp only [dat, dats, Bool.and_true, Bool.true_and]; decide +kernel))
local macro_rules | `(tactic| walk_at "side") => `(tactic| first
  | ((with_reducible show _ = _); first | rfl | (walk_at "hl") | (walk_at "ix") | omega)
  | ((try simp only [List.length_map, List.length_append, List.length_cons, List.length_nil, List.length_range, sizeLine]); omega)
  | with_reducible assumption
  | exact Nat.lt_of_le_of_lt (List.length_filterMap_le _ _) (by simp only [List.length_range, sizeLine]; omega)
  | exact ⟨rfl, flat_ints _⟩ | exact ⟨rfl, dats_ints _ _⟩
  | ((with_reducible show tyD _ _ _); exact ⟨rfl, _, (by walk_at "hl")⟩)
  | ((with_reducible show BoxAt _ _); (walk_at "box"))
  | ((with_reducible show dat _ _ = true); (walk_at "dat"))
  | (refine .inr ⟨?_, ?_⟩ <;> omega) | (refine .inl ⟨?_, ?_⟩ <;> omega) | (refine ⟨?_, ?_⟩ <;> omega) | (refine ⟨?_, ?_, ?_⟩ <;> omega) | (refine ⟨?_, ?_, ?_, ?_⟩ <;> omega)
  | decide
  | exact Nat.le_of_ble_eq_true rfl
  | decide +kernel)
local macro_rules | `(tactic| walk_at "call") => `(tactic| first
  | ((with_reducible show SortL _ _ _); refine SortL.ints (by walk_at "hl") (fun ns' p hperm hsrt hp => ?_))
  | ((with_reducible show BestL minD _ _ _); refine BestL.minI (by walk_at "hl") ?_ (fun m hm hle => ?_))
  | ((with_reducible show BestL maxD _ _ _); refine BestL.maxI (by walk_at "hl") ?_ (fun m hm hle => ?_))
  | ((with_reducible show SumL _ _ _); refine SumL.mk' (by walk_at "hl") ?_)
  | ((with_reducible show SumT _ _ _); refine SumT.mk' ?_)
  | ((with_reducible show BestS minD _ _ _); refine BestS.minI ?_ (fun m hm hle => ?_))
  | ((with_reducible show BestS maxD _ _ _); refine BestS.maxI ?_ (fun m hm hle => ?_))
  | fail "no call")
local macro_rules | `(tactic| walk_at "s") => `(tactic| ((fail_if_success (show Out _ _ _ _)); (fail_if_success (with_reducible show dlc _ _ _ _ _ _ _ _ _)); (fail_if_success (with_reducible show dlcW _ _ _ _ _ _ _ _ _)); (fail_if_success (with_reducible show dlcI _ _ _ _ _ _ _ _ _)); (fail_if_success (with_reducible show dlc2 _ _ _ _ _ _ _ _ _ _ _ _ _)); (fail_if_success (with_reducible show dfor _ _ _ _ _ _ _)); (fail_if_success (with_reducible show dforW _ _ _ _ _ _ _)); first
  | refine br_t ?_
  | refine br_f ?_
  | (walk_at "call")
  | (refine draw_call (by walk_at "box") (by first | decide | omega) (fun z hz0 hz1 => ?_))
  | (refine same_call (by first | assumption | (walk_at "dat")) ?_)
  | refine brT (by decide +kernel) ?_
  | refine brF (by decide +kernel) ?_
  | (refine br ?_ ?_ <;> intro hb <;> (try simp only [ng, decide_eq_true_eq, decide_eq_false_iff_not, List.length_map, Bool.not_eq_true', Bool.not_eq_false', bne_iff_ne, Bool.not_eq_eq_eq_not, Bool.not_true, Bool.not_false, List.isEmpty_map, List.isEmpty_iff, List.isEmpty_eq_false_iff, tn1, Int.toNat_natCast, any_deq_int] at hb) <;> (try (first | exact absurd trivial hb | exact False.elim hb)))
  | (refine fun (p : Addr) (hp : _ = none) => ?_)
  | (refine fun (hz : _ ≤ sizeLine) => ?_; simp only [List.length_map, sizeLine] at hz)
  | (refine And.intro (by walk_at "side") ?_)
  | (refine Exists.intro _ (And.intro (by walk_at "side") ?_))
  | (refine Exists.intro _ (Exists.intro _ (And.intro (by walk_at "hl") ?_)))
  | (refine Exists.intro _ (Exists.intro _ (Exists.intro _ (And.intro (by walk_at "hl") ?_))))
  | fail "no step"))
local macro_rules | `(tactic| walk_at "go") => `(tactic| ((walk_at "w"); repeat' ((walk_at "s") <;> (walk_at "w"))))
local macro_rules | `(tactic| walk_at "len") => `(tactic| (intro ds h Q q; repeat (first | (subst_vars; rfl) | (obtain ⟨_, q⟩ := q))))
local macro_rules | `(tactic| walk_at "st") => `(tactic| simp only [sto, wipeD, setsD, keepD])
local macro_rules | `(tactic| walk_at "sub3") => `(tactic| first | with_reducible assumption | exact Sub.refl _ | (refine Sub.put2 ?_ ?_; (walk_at "sub3"); (walk_at "hl")) | (walk_at "sub2") | (walk_at "sub"))
local macro_rules | `(tactic| walk_at "wks") => `(tactic| repeat first | exact WkS.nil _ | exact WkS.refl _ | refine WkS.keep ?_ | refine WkS.drop ?_ | refine WkS.keepE (congrArg D.int (by omega)) ?_ | refine WkS.keepE ?_ ?_)
local macro_rules | `(tactic| walk_at "wk") => `(tactic| first | with_reducible assumption | exact Weak.rfl | (refine WkS.weak ?_ ?_; rotate_left; (walk_at "sub3"); (try simp only [setsD, sto, keepD]); (walk_at "wks")))
local macro_rules | `(tactic| walk_at "for") => `(tactic| (refine RForW.go ?_; (try simp only [keepD]); (walk_at "go")))
local macro_rules | `(tactic| walk_at "fact") => `(tactic| first | with_reducible assumption | omega | (walk_at "box") | (walk_at "tb") | (walk_at "hl") | (walk_at "dat") | rfl | (simp only [List.length_map, List.length_append, List.length_cons, List.length_nil, List.length_range, sizeLine]; omega))
local macro_rules | `(tactic| walk_at "fin") => `(tactic| (refine out ?_ ?_; first | assumption | (refine_lift ?_; assumption); (walk_at "sub3")))
local macro_rules | `(tactic| walk_at "eqi") => `(tactic| ((try simp only [D.tup.injEq, List.cons.injEq, D.int.injEq, and_true, true_and]); (repeat' apply And.intro) <;> (repeat' split) <;> (first | rfl | omega)))
local macro_rules | `(tactic| walk_at "subx") => `(tactic| first | exact SubX.refl _ _ | (refine SubX.same ?_; (walk_at "subx")) | (refine SubX.new ?_ (by walk_at "nn"); (walk_at "subx")))
local macro_rules | `(tactic| walk_at "sub4") => `(tactic| (refine Sub.at ?_ ?_; (walk_at "subx"); (walk_at "hl")))
/-! ### the law's helpers keep their promises -/
theorem r__law_cell (G : Gc) : ∀ ds h Q, sp__law_cell ds h Q → t__law_cell G (endsD G.K Q) (startD N__law_cell ds) h := by
  rintro ds h Q ⟨ns, k, rfl, hk, q⟩
  show t__law_cell G _ [some _, some _] h
  unfold t__law_cell
  walk_at "go"
  all_goals exact out (q _) (.refl _)
theorem r__law_draw (G : Gc) : ∀ ds h Q, sp__law_draw ds h Q → ∀ H, RelH G.K h H → ∃ h1, RelH G.K h1 H ∧ t__law_draw G (endsD G.K Q) (startD N__law_draw ds) h1 := by
  rintro ds h Q ⟨b, m, rfl, ⟨dl, hb, hd⟩, hm, q⟩ H r
  obtain ⟨t, es, ns, r'⟩ := r.unbox hb hd
  have ne : dl ≠ b := ne_oo hd hb (by intro z; cases z)
  refine ⟨_, r', ?_⟩
  show t__law_draw G _ [some _, some _, none] _
  unfold t__law_draw
  have fin : ∀ (z : Int) (h' : DH) (t' : Nat), h' b = some (.lst (.ref dl :: .int (t' : Int) :: es)) → h' dl = some (.lst (ns.map D.int)) → (∀ a u, a ≠ b → a ≠ dl → h a = some u → h' a = some u) → 0 ≤ z → z < m → Out G.K Q (.int z) h' :=
    fun z h' t' e1 e2 e3 z0 z1 => ⟨h, (Ent.box (h0 := h) e1 e2 ne e3).trans (.sub fun a u e => by
      by_cases h1 : a = dl
      · subst h1; rw [dupd_same, ← hd]; exact e.symm ▸ rfl
      · rw [dupd_ne h1]
        by_cases h2 : a = b
        · subst h2; rw [dupd_same, ← hb]; exact e.symm ▸ rfl
        · rw [dupd_ne h2]; exact e), q z z0 z1⟩
  walk_at "go"
  all_goals refine fin _ _ (t + 1) ?_ ?_ ?_ ?_ ?_
  all_goals first
    | exact dupd_same
    | (walk_at "hl")
    | (intro a u h1 h2 e; rw [dupd_ne h1, dupd_ne h2, dupd_ne h1]; exact e)
    | exact Int.emod_nonneg _ (by omega)
    | exact Int.emod_lt_of_pos _ hm
    | omega
theorem r__law_digits (G : Gc) : ∀ ds h Q, sp__law_digits ds h Q → t__law_digits G (endsD G.K Q) (startD N__law_digits ds) h := by
  rintro ds h Q ⟨ns, a, b, rfl, h0, h1, h2, h3, q⟩
  show t__law_digits G _ [some _, some _, some _, none, none, none, none, none] h
  unfold t__law_digits
  walk_at "go"
  rename_i p hp
  refine dfor_rng (fun i τ h' => ∃ s4 s5 s6 s7 ms, τ = [some (.scr ns), some (.int a), some (.int b), some (.ref p), s4, s5, s6, s7] ∧ h' = dupd h p (.lst (ms.map D.int)) ∧ ms.length ≤ 60 * i) ⟨none, none, none, none, [], rfl, rfl, by simp⟩ (fun _ _ _ _ => trivial) ?_ ?_
  · rintro i τ h' N hi ⟨s4, s5, s6, s7, ms, rfl, rfl, hl⟩ hN
    have hi' : i < 1000 := by omega
    walk_at "w"
    refine ⟨ns, a + i, rfl, by omega, fun z => ?_⟩
    walk_at "go"
    all_goals try (
      refine dfor_rng (fun j τ h' => ∃ c s6 s7 ms', τ = [some (.scr ns), some (.int a), some (.int b), some (.ref p), some (.int (a + i)), some (.int c), s6, s7] ∧ h' = dupd h p (.lst (ms'.map D.int)) ∧ ms'.length ≤ ms.length + j) ⟨_, _, _, ms, rfl, rfl, by omega⟩ (fun _ _ _ _ => trivial) ?_ ?_
      · rintro j τ h' N' hj ⟨c, s6, s7, ms', rfl, rfl, hl'⟩ hN'
        have hlz : (ms'.map D.int).length < sizeLine := by simp only [List.length_map, sizeLine]; simp at hj; omega
        walk_at "go"
        · exact hN' _ _ ⟨_, _, _, ms' ++ [c % 1000], rfl, by rw [dupd_dupd]; simp, by simp; omega⟩
        · exact hN' _ _ ⟨_, _, _, ms', rfl, rfl, by omega⟩
      · rintro τ h' ⟨c, s6, s7, ms', rfl, rfl, hl'⟩
        walk_at "w"
        exact hN _ _ ⟨_, _, _, _, ms', rfl, rfl, by simp at hl'; omega⟩)
    all_goals (
      refine dfor_rng (fun j τ h' => ∃ c s6 s7 ms', τ = [some (.scr ns), some (.int a), some (.int b), some (.ref p), some (.int (a + i)), some (.int c), s6, some (.int s7)] ∧ h' = dupd h p (.lst (ms'.map D.int)) ∧ ms'.length ≤ ms.length + j) ⟨_, _, _, ms, rfl, rfl, by omega⟩ (fun _ _ _ _ => trivial) ?_ ?_
      · rintro j τ h' N' hj ⟨c, s6, s7, ms', rfl, rfl, hl'⟩ hN'
        have hlz : (ms'.map D.int).length < sizeLine := by simp only [List.length_map, sizeLine]; simp at hj; omega
        walk_at "go"
        exact hN' _ _ ⟨_, _, _, ms' ++ [_], rfl, by rw [dupd_dupd]; simp; rfl, by simp; omega⟩
      · rintro τ h' ⟨c, s6, s7, ms', rfl, rfl, hl'⟩
        walk_at "w"
        exact hN _ _ ⟨_, _, _, _, ms', rfl, rfl, by simp at hl'; omega⟩)
  · rintro τ h' ⟨s4, s5, s6, s7, ms, rfl, rfl, hl⟩
    walk_at "w"
    exact out (q p ms hp) (.refl _)
theorem r__law_box (G : Gc) : ∀ ds h Q, sp__law_box ds h Q → t__law_box G (endsD G.K Q) (startD N__law_box ds) h := by
  rintro ds h Q ⟨ns, a, b, rfl, h0, h1, h2, h3, q⟩
  show t__law_box G _ [some _, some _, some _] h
  unfold t__law_box
  walk_at "w"
  refine ⟨ns, a, b, rfl, h0, h1, h2, h3, fun dl ms hdl => ?_⟩
  walk_at "go"
  rename_i e he p hp
  rw [dupd_none] at he hp
  rw [dupd_none] at hp
  have hpd : dl ≠ p := Ne.symm hp.2.1
  refine ⟨_, (Ent.box (h0 := h) (p := p) (dl := dl) (t := 0) (ns := ms) dupd_same ?_ hpd (fun a u h1 h2 e' => ?_)), q p dl hp.2.2 hdl hpd⟩
  · rw [dupd_ne hpd, dupd_ne (Ne.symm he.1), dupd_same]
  · rw [dupd_ne h1, dupd_ne (ne_sn e' he.2), dupd_ne h2]; exact e'
theorem deq_refl {n : Nat} {d : D} (h : dat n d = true) : deq d d = true := SeqAt.eqv_refl _ (toP_lay n d h).1
theorem dats_get {n : Nat} : ∀ {es : List D} {i : Nat} {d : D}, dats n es = true → es[i]? = some d → dat n d = true
  | [], i, d, _, h => by simp at h
  | e :: es, 0, d, h, g => by simp only [dats, Bool.and_eq_true] at h; simp at g; exact g ▸ h.1
  | e :: es, i + 1, d, h, g => by simp only [dats, Bool.and_eq_true] at h; exact dats_get h.2 (by simpa using g)
mutual
theorem dat_mono : ∀ {n m : Nat} {d : D}, n ≤ m → dat n d = true → dat m d = true
  | _, _, .non, _, _ => by simp [dat]
  | _, _, .bl _, _, _ => by simp [dat]
  | _, _, .int _, _, _ => by simp [dat]
  | _, _, .str _, _, h => by simpa [dat] using h
  | 0, _, .tup _, _, h => by simp [dat] at h
  | n + 1, 0, .tup _, hm, h => by omega
  | n + 1, m + 1, .tup ds, hm, h => by simp only [dat] at h ⊢; exact dats_mono (by omega) h
  | _, _, .ref _, _, h => by simp [dat] at h
  | _, _, .scr _, _, h => by simp [dat] at h
  | _, _, .ty _, _, h => by simp [dat] at h
theorem dats_mono : ∀ {n m : Nat} {ds : List D}, n ≤ m → dats n ds = true → dats m ds = true
  | _, _, [], _, _ => by simp [dats]
  | n, m, d :: ds, hm, h => by
    simp only [dats, Bool.and_eq_true] at h ⊢
    exact ⟨dat_mono hm h.1, dats_mono hm h.2⟩
end
/-- .. of data at most n deep -/
def sp_same (n : Nat) : DSp := fun ds h Q => ∃ d, ds = [d, d] ∧ dat n d = true ∧ Q (.bl true) h
theorem r__law_same (G : Gc) (n : Nat) (hn : n ≤ 20) (sp : DSp) (hs : ∀ k, n = k + 1 → sp = sp_same k) : ∀ ds h Q, sp_same n ds h Q → t__law_same G sp (endsD G.K Q) (startD N__law_same ds) h := by
  rintro ds h Q ⟨d, rfl, hd, q⟩
  show t__law_same G _ _ [some _, some _, none] h
  have hd20 := dat_mono (m := 50) (by omega) hd
  unfold t__law_same
  cases d with
  | ref a => simp [dat] at hd
  | scr a => simp [dat] at hd
  | ty a => simp [dat] at hd
  | non => walk_at "go"; exact out q (.refl _)
  | bl b => walk_at "go"; simp only [ng, deq_refl hd20]; exact out q (.refl _)
  | int i => walk_at "go"; simp only [ng, decide_true]; exact out q (.refl _)
  | str x => walk_at "go"; simp only [ng, decide_true]; exact out q (.refl _)
  | tup es =>
    cases n with
    | zero => simp [dat] at hd
    | succ k =>
      obtain rfl := hs k rfl
      simp only [dat] at hd
      walk_at "go"
      refine dfor_rng (fun i τ h' => ∃ s, τ = [some (.tup es), some (.tup es), s] ∧ h' = h) ⟨_, rfl, rfl⟩ (fun _ _ _ _ => trivial) ?_ ?_
      · rintro i τ h' N hi ⟨s, rfl, rfl⟩ hN
        have hi' : i < es.length := by simpa using hi
        have hix : L2.atI es (0 + (i : Int)) = some es[i] := atI_at (by omega) (List.getElem?_eq_getElem hi')
        have hdi := dats_get hd (List.getElem?_eq_getElem hi')
        walk_at "go"
        exact hN _ _ ⟨_, rfl, rfl⟩
      · rintro τ h' ⟨s, rfl, rfl⟩
        walk_at "go"
        exact out q (.refl _)
theorem ok__law_same {G : Gc} {f : Addr} {fd : FuncData} (T : Gx G) (A : At G "_law_same" "_law_same" s__law_same f fd) (B : Binds G.K fd ["actual", "expected"] []) : DDef G "_law_same" 25 sp__law_same := by
  have all : ∀ n, n ≤ 20 → DDef G "_law_same" (n + 1) (sp_same n) := by
    intro n
    induction n with
    | zero => exact fun hn => ddef_of A sc__law_same B (by rintro ds h Q ⟨_, rfl, _⟩; rfl) (d__law_same T (k := 0) (Nat.le_refl _) (Nat.le_refl _) (ddef_never A B)) (r__law_same G 0 hn (fun _ _ _ => False) (fun k e => by cases e))
    | succ n ih => exact fun hn => ddef_of A sc__law_same B (by rintro ds h Q ⟨_, rfl, _⟩; rfl) (d__law_same T (k := n + 1) (Nat.le_refl _) (Nat.zero_le _) (ih (by omega))) (r__law_same G (n + 1) hn (sp_same n) (fun k e => by cases e; rfl))
  exact (all 20 (Nat.le_refl _)).mono (by decide)
section
theorem mod_f {f r n : Nat} (h : n = f * r) (f0 : 0 < f) : ((n : Int) % (2 * (f : Int)) = 0) ↔ r % 2 = 0 := by
  have e : (n : Int) % (2 * (f : Int)) = ((n % (2 * f) : Nat) : Int) := by
    rw [Int.natCast_emod]; rfl
  rw [e, h, Nat.mul_comm 2 f, Nat.mul_mod_mul_left]
  constructor
  · intro z
    have z2 : f * (r % 2) = 0 := by omega
    rcases Nat.mul_eq_zero.mp z2 with a | a <;> omega
  · intro z; rw [z]; rfl
set_option maxHeartbeats 2000000 in
theorem r_low_part (G : Gc) : ∀ ds h Q, sp_low_part ds h Q → t_low_part G (endsD G.K Q) (startD N_low_part ds) h := by
  rintro ds h Q ⟨n, rfl, f1, f2, q⟩
  show t_low_part G _ [some _, none] h
  unfold t_low_part
  walk_at "go"
  refine RWhileW.st _ (Sub.refl _) (fun s : Nat × Nat => [(1, .int (s.1 : Int))]) (fun _ => h) (fun m s => m = s.2 ∧ 0 < s.1 ∧ 0 < s.2 ∧ n = s.1 * s.2 ∧ lowb n = s.1 * lowb s.2) n (1, n) rfl rfl ⟨rfl, Nat.one_pos, f1, by simp, by simp⟩ ?_
  rintro m ⟨f, r⟩ N ⟨rfl, h0, h1, h2, h3⟩ hN
  simp only at h0 h1 h2 h3
  have hm := mod_f h2 h0
  walk_at "st"
  walk_at "go"
  · rename_i c
    rcases half_of h1 with e | ⟨k, k0, kl, rfl⟩
    · have := hm.1 c; omega
    · refine hN k (f * 2, k) _ _ kl ⟨rfl, by simp only; omega, k0, by simp only; rw [h2, Nat.mul_assoc], by simp only; rw [h3, lowb_two k0, Nat.mul_assoc]⟩ ?_
      rw [Int.natCast_mul]
      walk_at "wk"
  · rename_i c
    have e : m % 2 = 1 := by
      rcases Nat.mod_two_eq_zero_or_one m with z | z
      · exact absurd (hm.2 z) c
      · exact z
    rw [lowb_odd e, Nat.mul_one] at h3
    rw [h3] at q
    walk_at "go"
    exact out q (.refl _)
set_option maxHeartbeats 2000000 in
theorem r_with_more (G : Gc) : ∀ ds h Q, sp_with_more ds h Q → t_with_more G (endsD G.K Q) (startD N_with_more ds) h := by
  rintro ds h Q ⟨a, b, m, o, rfl, q⟩
  show t_with_more G _ [some _, some _, some _] h
  unfold t_with_more
  walk_at "go"
  all_goals exact out q (.refl _)
theorem Flds.f1 {K : PySem.W.Frag} {C : Addr} (h : Flds_Heights K C) : FldOk K C (Str.ofString "sums") := h _ (by simp)
theorem Flds.f2 {K : PySem.W.Frag} {C : Addr} (h : Flds_Heights K C) : FldOk K C (Str.ofString "rows") := h _ (by simp)
local macro_rules | `(tactic| walk_at "side") => `(tactic| first | with_reducible assumption | rfl)
local macro_rules | `(tactic| walk_at "call") => `(tactic| first | refine low_part_call (by walk_at "fact") (by walk_at "fact") ?_ | refine Heights_change_call (by walk_at "fact") (by walk_at "fact") ?_ | refine Heights_top_call (by walk_at "fact") (by walk_at "fact") ?_ | refine Heights_total_call (by walk_at "fact") ?_ | refine Heights_lies_at_call (by walk_at "fact") ?_ | refine Heights___init___call (by walk_at "fact") (by walk_at "fact") ?_ | refine anchor_call (by walk_at "fact") (by walk_at "fact") ?_ | refine held_top_call (by walk_at "fact") (by walk_at "fact") ?_ | refine scrolled_call (by walk_at "fact") (by walk_at "fact") (by walk_at "fact") ?_ | refine nearest_top_call (by walk_at "fact") (by walk_at "fact") ?_ | refine come_and_gone_call (by walk_at "fact") (by walk_at "fact") (by walk_at "fact") (by walk_at "fact") (by walk_at "fact") (by walk_at "fact") (by walk_at "fact") ?_ | refine with_more_call ?_)

theorem sums_at {sums : List Int} {i : Nat} (h : i < sums.length) : atI (sums.map D.int) (i : Int) = some (.int (sums.getD i 0)) := atI_mapD rfl (by rw [List.getD_eq_getElem?_getD, List.getElem?_eq_getElem h]; rfl)
set_option maxHeartbeats 2000000 in
theorem r_Heights_top (G : Gc) (C_Heights : Addr) (hC_Heights : Flds_Heights G.K C_Heights) : ∀ ds h Q, sp_Heights_top C_Heights ds h Q → t_Heights_top G C_Heights (endsD G.K Q) (startD N_Heights_top ds) h := by
  rintro ds h Q ⟨p, ps, pr, rows, sums, k, rfl, f1, f2, q⟩
  show t_Heights_top G C_Heights _ [some _, some _, none] h
  unfold t_Heights_top
  obtain ⟨i1, i2, i3, n1, n2, n3, ok, le⟩ := f1
  walk_at "go"
  refine RWhileW.st _ (Sub.refl _) (fun s : Nat × Int => [(1, .int (s.1 : Int)), (2, .int s.2)]) (fun _ => h) (fun m s => m = s.1 ∧ s.1 ≤ rows.length ∧ s.2 + psum rows s.1 = psum rows k) k (k, 0) rfl rfl ⟨rfl, f2, by simp only; omega⟩ ?_
  rintro m ⟨i, a⟩ N ⟨rfl, h1, h2⟩ hN
  simp only at h1 h2
  have g1 := Flds.f1 hC_Heights
  have hok := ok.1
  have hix := fun z : m ≤ rows.length => sums_at (sums := sums) (i := m) (by omega)
  have hix2 := hix h1
  have lp := lowb_pos m
  have ll := fun z : 0 < m => lowb_le z
  have dn := fun z : 0 < m => ok.down z h1
  walk_at "st"
  walk_at "go"
  · rename_i c
    have := ll (by omega)
    have := dn (by omega)
    refine hN (m - lowb m) (m - lowb m, a + sums.getD m 0) _ _ (by omega) ⟨rfl, by simp only; omega, by simp only; omega⟩ ?_
    rw [Int.ofNat_sub (by omega)]
    walk_at "wk"
  · rename_i c
    obtain rfl : m = 0 := by omega
    rw [psum_zero, Int.add_zero] at h2
    rw [← h2] at q
    walk_at "go"
    exact out q (.refl _)
set_option maxHeartbeats 2000000 in
theorem r_Heights_total (G : Gc) (C_Heights : Addr) (hC_Heights : Flds_Heights G.K C_Heights) : ∀ ds h Q, sp_Heights_total C_Heights ds h Q → t_Heights_total G C_Heights (endsD G.K Q) (startD N_Heights_total ds) h := by
  rintro ds h Q ⟨p, ps, pr, rows, sums, rfl, f1, q⟩
  show t_Heights_total G C_Heights _ [some _] h
  unfold t_Heights_total
  have f1' := f1
  obtain ⟨i1, i2, i3, n1, n2, n3, ok, le⟩ := f1
  have g2 := Flds.f2 hC_Heights
  walk_at "go"
  all_goals (
    rw [List.length_map]
    exact out q (.refl _))
end
section
local macro_rules | `(tactic| walk_at "call") => `(tactic| first | refine low_part_call (by walk_at "fact") (by walk_at "fact") ?_ | refine Heights_change_call (by walk_at "fact") (by walk_at "fact") ?_ | refine Heights_top_call (by walk_at "fact") (by walk_at "fact") ?_ | refine Heights_total_call (by walk_at "fact") ?_ | refine Heights_lies_at_call (by walk_at "fact") ?_ | refine Heights___init___call (by walk_at "fact") (by walk_at "fact") ?_ | refine anchor_call (by walk_at "fact") (by walk_at "fact") ?_ | refine held_top_call (by walk_at "fact") (by walk_at "fact") ?_ | refine scrolled_call (by walk_at "fact") (by walk_at "fact") (by walk_at "fact") ?_ | refine nearest_top_call (by walk_at "fact") (by walk_at "fact") ?_ | refine come_and_gone_call (by walk_at "fact") (by walk_at "fact") (by walk_at "fact") (by walk_at "fact") (by walk_at "fact") (by walk_at "fact") (by walk_at "fact") ?_ | refine with_more_call ?_)

set_option maxHeartbeats 2000000 in
theorem r_Heights_change (G : Gc) (C_Heights : Addr) (hC_Heights : Flds_Heights G.K C_Heights) : ∀ ds h Q, sp_Heights_change C_Heights ds h Q → t_Heights_change G C_Heights (endsD G.K Q) (startD N_Heights_change ds) h := by
  rintro ds h Q ⟨p, ps, pr, rows, sums, k, v, rfl, f1, f2, q⟩
  show t_Heights_change G C_Heights _ [some _, some _, some _, none, none] h
  unfold t_Heights_change
  obtain ⟨i1, i2, i3, n1, n2, n3, ok, le⟩ := f1
  have g1 := Flds.f1 hC_Heights
  have g2 := Flds.f2 hC_Heights
  have hix := sums_at (sums := rows) f2
  have hxk : ixN (rows.map D.int).length (k : Int) = some k := ixN_lt (by rw [List.length_map]; exact f2)
  have hsl := ok.1
  walk_at "go"
  rw [← List.map_set]
  refine RWhileW.st (dupd (dupd h pr (.lst ((rows.set k v).map D.int))) ps (.lst (sums.map D.int))) (by walk_at "sub3") (fun s : Nat × List Int => [(4, .int (s.1 : Int))]) (fun s => dupd (dupd h pr (.lst ((rows.set k v).map D.int))) ps (.lst (s.2.map D.int))) (fun m s => m = rows.length + 1 - s.1 ∧ 0 < s.1 ∧ HoldsB s.1 (k + 1) ∧ FenMid rows (k + 1) (v - rows.getD k 0) s.1 s.2) (rows.length + 1 - (k + 1)) (k + 1, sums) rfl rfl ⟨rfl, by simp only; omega, HoldsB.self (by omega), FenMid.start _ ok⟩ ?_
  rintro m ⟨i, ss⟩ N ⟨rfl, h0, h1, h2⟩ hN
  simp only at h0 h1 h2
  have hl2 := h2.1
  have lp := lowb_pos i
  walk_at "st"
  walk_at "go"
  · rename_i c
    have hi : i ≤ rows.length := by omega
    refine ⟨i, ixN_lt (by rw [List.length_map]; omega), ?_⟩
    rw [show ((i : Int)).toNat = i from by omega]
    walk_at "go"
    refine hN _ (i + lowb i, ss.set i (ss.getD i 0 + (v - rows.getD k 0))) _ _ (by omega) ⟨rfl, by simp only; omega, HoldsB.next h0 h1, h2.step h0 h1 hi⟩ ?_
    have e : (ss.map D.int).set i (.int (ss.getD i 0 + (v - rows.getD k 0))) = (ss.set i (ss.getD i 0 + (v - rows.getD k 0))).map D.int := List.map_set.symm
    rw [e]
    refine WkS.weak ?_ ?_; rotate_left
    · walk_at "sub4"
    · simp only [setsD, sto, keepD]
      walk_at "wks"
  · rename_i c
    refine out (q ss ?_) (.refl _)
    have := h2.done (by omega) (by omega) (by omega)
    simpa using this
end
section
local macro_rules | `(tactic| walk_at "call") => `(tactic| first | refine low_part_call (by walk_at "fact") (by walk_at "fact") ?_ | refine Heights_change_call (by walk_at "fact") (by walk_at "fact") ?_ | refine Heights_top_call (by walk_at "fact") (by walk_at "fact") ?_ | refine Heights_total_call (by walk_at "fact") ?_ | refine Heights_lies_at_call (by walk_at "fact") ?_ | refine Heights___init___call (by walk_at "fact") (by walk_at "fact") ?_ | refine anchor_call (by walk_at "fact") (by walk_at "fact") ?_ | refine held_top_call (by walk_at "fact") (by walk_at "fact") ?_ | refine scrolled_call (by walk_at "fact") (by walk_at "fact") (by walk_at "fact") ?_ | refine nearest_top_call (by walk_at "fact") (by walk_at "fact") ?_ | refine come_and_gone_call (by walk_at "fact") (by walk_at "fact") (by walk_at "fact") (by walk_at "fact") (by walk_at "fact") (by walk_at "fact") (by walk_at "fact") ?_ | refine with_more_call ?_)

set_option maxHeartbeats 2000000 in
theorem r_Heights_lies_at (G : Gc) (C_Heights : Addr) (hC_Heights : Flds_Heights G.K C_Heights) : ∀ ds h Q, sp_Heights_lies_at C_Heights ds h Q → t_Heights_lies_at G C_Heights (endsD G.K Q) (startD N_Heights_lies_at ds) h := by
  rintro ds h Q ⟨p, ps, pr, rows, sums, y, rfl, f1, q⟩
  show t_Heights_lies_at G C_Heights _ [some _, some _, none, none] h
  unfold t_Heights_lies_at
  have f1' := f1
  obtain ⟨i1, i2, i3, n1, n2, n3, ok, le⟩ := f1
  have g1 := Flds.f1 hC_Heights
  have hsl := ok.1
  walk_at "go"
  · rename_i c; exact out (q .non (.inl c)) (.refl _)
  · rename_i c1 c2; exact out (q .non (.inr c2)) (.refl _)
  rename_i c1 c2
  refine RWhileW.st _ (Sub.refl _) (fun w : Nat => [(3, .int (w : Int))]) (fun _ => h) (fun m w => m = rows.length + 1 - w ∧ 0 < w ∧ ∃ k, w = 2 ^ k) (rows.length + 1 - 1) 1 rfl rfl ⟨rfl, Nat.one_pos, 0, rfl⟩ ?_
  rintro m w N ⟨rfl, hw0, k, hk⟩ hN
  walk_at "st"
  walk_at "go"
  · rename_i c
    refine hN _ (w * 2) _ _ (by omega) ⟨rfl, by omega, k + 1, by rw [hk, Nat.pow_succ]⟩ ?_
    rw [Int.natCast_mul]
    walk_at "wk"
  rename_i c
  refine RWhileW.st _ (Sub.refl _) (fun s : Nat × Nat × Int => [(1, .int s.2.2), (2, .int (s.1 : Int)), (3, .int (s.2.1 : Int))]) (fun _ => h) (fun m s => s.2.1 = 2 ^ m / 2 ∧ (∃ q, s.1 = 2 ^ m * q) ∧ s.2.2 = y - psum rows s.1 ∧ psum rows s.1 ≤ y ∧ s.1 ≤ rows.length ∧ (rows.length < s.1 + 2 ^ m ∨ y < psum rows (s.1 + 2 ^ m))) (k + 1) (0, w, y) rfl rfl ⟨by rw [hk, Nat.pow_succ]; simp, ⟨0, rfl⟩, by rw [psum_zero]; simp, by rw [psum_zero]; omega, Nat.zero_le _, .inl (by rw [Nat.pow_succ, ← hk]; simp only; omega)⟩ ?_
  rintro m ⟨f, u, off⟩ N ⟨hu, ⟨q1, hq1⟩, ho, hy, hf, hn⟩ hN
  simp only at hu hq1 ho hy hf hn
  walk_at "st"
  cases m with
  | zero =>
    obtain rfl : u = 0 := by simpa using hu
    have hlt : f < rows.length := by
      rcases Nat.lt_or_ge f rows.length with z | z
      · exact z
      · obtain rfl : f = rows.length := by omega
        omega
    have hfin : LiesD rows y (.int (f : Int)) := ⟨f, rfl, hlt, hy, by rcases hn with z | z; (rw [Nat.pow_zero] at z; omega); exact z⟩
    walk_at "go"
    exact out (q _ hfin) (.refl _)
  | succ m =>
    have hwy := lowb_way hq1
    have hu2 : u = 2 ^ m := by rw [hu, Nat.pow_succ]; simp
    rw [← hu2] at hwy
    rw [Nat.pow_succ, ← hu2] at hn hq1
    have hu0 : 0 < u := by rw [hu2]; exact Nat.pow_pos (by omega)
    have hcell : f + u ≤ rows.length → sums.getD (f + u) 0 = psum rows (f + u) - psum rows f := fun z => by
      have := ok.2 (f + u) (by omega) z
      rw [hwy, Nat.add_sub_cancel] at this; exact this
    have ht : ((f : Int) + (u : Int)).toNat = f + u := by omega
    walk_at "go"
    · rename_i c3 c4 c5
      rw [ht] at *
      have := hcell (by omega)
      refine hN m (f + u, u / 2, off - sums.getD (f + u) 0) _ _ (by omega) ⟨by simp only; rw [hu2], ⟨2 * q1 + 1, by simp only; rw [hq1, ← hu2, Nat.mul_add, Nat.mul_assoc]; simp⟩, by simp only; omega, by simp only; omega, by simp only; omega, ?_⟩ ?_
      · simp only
        rw [← hu2]
        rcases hn with z | z
        · exact .inl (by omega)
        · exact .inr (by rw [show f + u + u = f + u * 2 from by omega]; exact z)
      · walk_at "wk"
    · rename_i c3 c4 c5
      rw [ht] at *
      have := hcell (by omega)
      refine hN m (f, u / 2, off) _ _ (by omega) ⟨by simp only; rw [hu2], ⟨2 * q1, by simp only; rw [hq1, ← hu2, Nat.mul_assoc]⟩, ho, hy, hf, .inr (by simp only; rw [← hu2]; omega)⟩ ?_
      walk_at "wk"
    · rename_i c3 c4
      refine hN m (f, u / 2, off) _ _ (by omega) ⟨by simp only; rw [hu2], ⟨2 * q1, by simp only; rw [hq1, ← hu2, Nat.mul_assoc]⟩, ho, hy, hf, .inl (by simp only; rw [← hu2]; omega)⟩ ?_
      walk_at "wk"
    · rename_i c3
      omega
end
section
local macro_rules | `(tactic| walk_at "call") => `(tactic| first | refine low_part_call (by walk_at "fact") (by walk_at "fact") ?_ | refine Heights_change_call (by walk_at "fact") (by walk_at "fact") ?_ | refine Heights_top_call (by walk_at "fact") (by walk_at "fact") ?_ | refine Heights_total_call (by walk_at "fact") ?_ | refine Heights_lies_at_call (by walk_at "fact") ?_ | refine Heights___init___call (by walk_at "fact") (by walk_at "fact") ?_ | refine anchor_call (by walk_at "fact") (by walk_at "fact") ?_ | refine held_top_call (by walk_at "fact") (by walk_at "fact") ?_ | refine scrolled_call (by walk_at "fact") (by walk_at "fact") (by walk_at "fact") ?_ | refine nearest_top_call (by walk_at "fact") (by walk_at "fact") ?_ | refine come_and_gone_call (by walk_at "fact") (by walk_at "fact") (by walk_at "fact") (by walk_at "fact") (by walk_at "fact") (by walk_at "fact") (by walk_at "fact") ?_ | refine with_more_call ?_)

theorem hei_put (C : Addr) (a b : D) : DO.ins C (DL.putN (DL.putN [] (Str.ofString "sums")) (Str.ofString "rows")) (DL.putD (DL.putN [] (Str.ofString "sums")) (Str.ofString "rows") (DL.putD [] (Str.ofString "sums") [] a) b) = .ins C [Str.ofString "sums", Str.ofString "rows"] [a, b] := by
  have e : DL.ixF [Str.ofString "sums"] (Str.ofString "rows") = none := by decide +kernel
  simp only [DL.putN, DL.putD, show DL.ixF [] (Str.ofString "sums") = none from rfl, List.nil_append, e]; rfl
theorem repl_ints (k : Int) : (List.replicate k.toNat [D.int 0]).flatten = (List.replicate k.toNat (0 : Int)).map D.int := by
  induction k.toNat with
  | zero => rfl
  | succ n ih => rw [List.replicate_succ, List.replicate_succ, List.flatten_cons, ih]; rfl
theorem take_fill {rows : List Int} {i : Nat} {a : Int} (h : rows[i]? = some a) : (rows.take i ++ List.replicate (rows.length - i) 0).set i a = rows.take (i + 1) ++ List.replicate (rows.length - (i + 1)) 0 := by
  have hi := lt_some h
  have e : rows.length - i = (rows.length - (i + 1)) + 1 := by omega
  have hl : (rows.take i).length = i := by rw [List.length_take]; omega
  rw [e, List.replicate_succ, List.set_append_right _ _ (by omega), hl, Nat.sub_self, List.set_cons_zero, List.take_add_one, h, List.append_assoc]; rfl
set_option maxHeartbeats 2000000 in
theorem r_Heights___init__ (G : Gc) (C_Heights : Addr) (hC_Heights : Flds_Heights G.K C_Heights) : ∀ ds h Q, sp_Heights___init__ C_Heights ds h Q → t_Heights___init__ G C_Heights (endsD G.K Q) (startD N_Heights___init__ ds) h := by
  rintro ds h Q ⟨p, rows, rfl, f1, f2, q⟩
  show t_Heights___init__ G C_Heights _ [some _, some _, none, none] h
  unfold t_Heights___init__
  have g1 := Flds.f1 hC_Heights
  have g2 := Flds.f2 hC_Heights
  walk_at "go"
  rename_i pa hpa hz1 ps hps pb hpb hz2 pr hpr
  rw [hei_put, repl_ints, repl_ints, List.length_map]
  have n1 : ps ≠ pr := by walk_at "ne"
  have n2 : p ≠ ps := by walk_at "ne"
  have n3 : p ≠ pr := by walk_at "ne"
  have m1 : h ps = none := by walk_at "nn"
  have m2 : h pr = none := (dupd_none.mp (dupd_none.mp (dupd_none.mp (dupd_none.mp hpr).2).2).2).2
  have m3 : h pa = none := by walk_at "nn"
  have m4 : h pb = none := by walk_at "nn"
  have n4 : p ≠ pa := by walk_at "ne"
  have n5 : p ≠ pb := by walk_at "ne"
  rw [show ((rows.length : Int) + 1).toNat = rows.length + 1 from by omega, Int.toNat_natCast]
  refine RForW.to (dupd (dupd (dupd h p (heiO C_Heights ps pr)) ps (.lst ((List.replicate (rows.length + 1) (0 : Int)).map D.int))) pr (.lst ((List.replicate rows.length (0 : Int)).map D.int))) ?_ ?_
  · refine Sub.put2 (Sub.put2 ?_ ?_) ?_
    · walk_at "sub4"
    · walk_at "hl"
    · walk_at "hl"
  simp only [keepD]
  walk_at "go"
  refine dforW_enum (fun _ => []) (fun s : List Int × List Int => dupd (dupd (dupd h p (heiO C_Heights ps pr)) ps (.lst (s.2.map D.int))) pr (.lst (s.1.map D.int))) (fun i s => s.1 = rows.take i ++ List.replicate (rows.length - i) 0 ∧ FenOk s.1 s.2) (List.replicate rows.length 0, List.replicate (rows.length + 1) 0) rfl rfl ⟨by simp, FenOk.empty _⟩ (fun _ _ _ => trivial) ?_ ?_
  · rintro i a ⟨r, ss⟩ N hi ⟨h1, h2⟩ hN
    simp only at h1 h2
    have hi' := lt_some hi
    have hrl : r.length = rows.length := by rw [h1, List.length_append, List.length_take, List.length_replicate]; omega
    walk_at "st"
    walk_at "go"
    refine Heights_change_call (rows := r) (sums := ss) (k := i) (v := a) ⟨by walk_at "hl", by walk_at "hl", by walk_at "hl", n1, n2, n3, h2, by omega⟩ (by omega) fun sums' hok => ?_
    refine hN (r.set i a, sums') _ _ ⟨by rw [h1]; exact take_fill hi, hok⟩ ?_
    refine WkS.weak ?_ ?_; rotate_left
    · refine Sub.put2 (Sub.put2 ?_ ?_) ?_
      · refine Sub.at ?_ (by walk_at "hl")
        walk_at "subx"
      · walk_at "hl"
      · walk_at "hl"
    · simp only [setsD, sto, keepD]
      walk_at "wks"
  · rintro ⟨r, ss⟩ ⟨h1, h2⟩
    simp only at h1 h2
    rw [List.take_length, Nat.sub_self, List.replicate_zero, List.append_nil] at h1
    subst h1
    exact out (q ps pr ss m1 m2 n1 n2 n3 h2) (.refl _)
end
section
local macro_rules | `(tactic| walk_at "call") => `(tactic| first | refine low_part_call (by walk_at "fact") (by walk_at "fact") ?_ | refine Heights_change_call (by walk_at "fact") (by walk_at "fact") ?_ | refine Heights_top_call (by walk_at "fact") (by walk_at "fact") ?_ | refine Heights_total_call (by walk_at "fact") ?_ | refine Heights_lies_at_call (by walk_at "fact") ?_ | refine Heights___init___call (by walk_at "fact") (by walk_at "fact") ?_ | refine anchor_call (by walk_at "fact") (by walk_at "fact") ?_ | refine held_top_call (by walk_at "fact") (by walk_at "fact") ?_ | refine scrolled_call (by walk_at "fact") (by walk_at "fact") (by walk_at "fact") ?_ | refine nearest_top_call (by walk_at "fact") (by walk_at "fact") ?_ | refine come_and_gone_call (by walk_at "fact") (by walk_at "fact") (by walk_at "fact") (by walk_at "fact") (by walk_at "fact") (by walk_at "fact") (by walk_at "fact") ?_ | refine with_more_call ?_)

set_option maxHeartbeats 2000000 in
theorem r_anchor (G : Gc) (C_Heights : Addr) (hC_Heights : Flds_Heights G.K C_Heights) : ∀ ds h Q, sp_anchor C_Heights ds h Q → t_anchor G C_Heights (endsD G.K Q) (startD N_anchor ds) h := by
  rintro ds h Q ⟨p, ps, pr, rows, sums, y, rfl, f1, f2, q⟩
  show t_anchor G C_Heights _ [some _, some _, none] h
  unfold t_anchor
  have f1' := f1
  obtain ⟨i1, i2, i3, n1, n2, n3, ok, le⟩ := f1
  walk_at "go"
  have hy : (if y > 0 then y else 0) = y := by split <;> omega
  rw [hy]
  intro d hd
  cases d with
  | int k =>
    obtain ⟨n, rfl, h1, h2, h3⟩ := hd
    walk_at "go"
    exact out (q.2 n h1 h2 h3) (.refl _)
  | non =>
    have : psum rows rows.length ≤ y := by rcases hd with z | z <;> omega
    walk_at "go"
    exact out (q.1 this) (.refl _)
  | _ => exact hd.elim
set_option maxHeartbeats 2000000 in
theorem r_held_top (G : Gc) (C_Heights : Addr) (hC_Heights : Flds_Heights G.K C_Heights) : ∀ ds h Q, sp_held_top C_Heights ds h Q → t_held_top G C_Heights (endsD G.K Q) (startD N_held_top ds) h := by
  rintro ds h Q ⟨p, ps, pr, rows, sums, k, w, hi, rfl, f1, f2, q⟩
  show t_held_top G C_Heights _ [some _, some _, some _, some _, none, none] h
  unfold t_held_top
  have f1' := f1
  obtain ⟨i1, i2, i3, n1, n2, n3, ok, le⟩ := f1
  have g2 := Flds.f2 hC_Heights
  have hix := sums_at (sums := rows) f2
  walk_at "go"
  all_goals (try (rename_i z; exact absurd z (by first | (intro e; subst e; simp at f2; done) | (rintro rfl; simp at f2; done))))
  all_goals first | exact out q (.refl _) | (rename_i z1 z2; subst z1; simp at f2; done) | trace_state
theorem HeiAt.sub {C p ps pr : Addr} {rows sums : List Int} {h h' : DH} (g : HeiAt C p ps pr rows sums h) (s : Sub h h') : HeiAt C p ps pr rows sums h' := ⟨s _ _ g.i, s _ _ g.s, s _ _ g.r, g.n1, g.n2, g.n3, g.ok, g.le⟩
theorem way_look (a b c : D) {j : Nat} (hj : j < 3) : lookD (mergeD [] [(.inr (Str.ofString "start"), a), (.inr (Str.ofString "end"), b), (.inr (Str.ofString "middle"), c)]) (.inr (wayS j)) = some (match j with | 0 => a | 1 => b | _ => c) := by
  have e1 : ¬ (Str.ofString "start" = Str.ofString "end") := by decide +kernel
  have e2 : ¬ (Str.ofString "start" = Str.ofString "middle") := by decide +kernel
  have e3 : ¬ (Str.ofString "end" = Str.ofString "middle") := by decide +kernel
  have z : j = 0 ∨ j = 1 ∨ j = 2 := by omega
  rcases z with rfl | rfl | rfl
  all_goals simp [mergeD, putKD, lookD, wayS, e1, e2, e3]
set_option maxHeartbeats 2000000 in
theorem r_scrolled (G : Gc) (C_Heights : Addr) (hC_Heights : Flds_Heights G.K C_Heights) : ∀ ds h Q, sp_scrolled C_Heights ds h Q → t_scrolled G C_Heights (endsD G.K Q) (startD N_scrolled ds) h := by
  rintro ds h Q ⟨p, ps, pr, rows, sums, k, j, hi, rfl, f1, f2, f3, q⟩
  show t_scrolled G C_Heights _ [some _, some _, some _, some _, none, none, none] h
  unfold t_scrolled
  have f1' := f1
  obtain ⟨i1, i2, i3, n1, n2, n3, ok, le⟩ := f1
  have g2 := Flds.f2 hC_Heights
  have hix := sums_at (sums := rows) f2
  walk_at "go"
  refine ⟨[(.inr (Str.ofString "start"), _), (.inr (Str.ofString "end"), _), (.inr (Str.ofString "middle"), _)], rfl, by simp, ?_⟩
  walk_at "go"
  refine ⟨_, ⟨_, _, .inr (wayS j), rfl, dupd_same, rfl, (way_look _ _ _ f3).symm⟩, ?_⟩
  rename_i pd hpd
  have f1'' := f1'.sub (h' := dupd (dupd h pd (DO.dic [])) pd (DO.dic (mergeD [] [(Sum.inr (Str.ofString "start"), D.int (psum rows k)), (Sum.inr (Str.ofString "end"), D.int (psum rows k + rows.getD k 0 - hi)), (Sum.inr (Str.ofString "middle"), D.int (psum rows k + rows.getD k 0 / 2 - hi / 2))]))) (by walk_at "sub3")
  have z : j = 0 ∨ j = 1 ∨ j = 2 := by omega
  rcases z with rfl | rfl | rfl
  all_goals (
    walk_at "go"
    exact out q (by walk_at "sub3"))
set_option maxHeartbeats 2000000 in
theorem r_nearest_top (G : Gc) (C_Heights : Addr) (hC_Heights : Flds_Heights G.K C_Heights) : ∀ ds h Q, sp_nearest_top C_Heights ds h Q → t_nearest_top G C_Heights (endsD G.K Q) (startD N_nearest_top ds) h := by
  rintro ds h Q ⟨p, ps, pr, rows, sums, k, t, hi, rfl, f1, f2, q⟩
  show t_nearest_top G C_Heights _ [some _, some _, some _, some _, none, none] h
  unfold t_nearest_top
  have f1' := f1
  obtain ⟨i1, i2, i3, n1, n2, n3, ok, le⟩ := f1
  have g2 := Flds.f2 hC_Heights
  have hix := sums_at (sums := rows) f2
  walk_at "go"
  all_goals (
    refine outE q (.refl _) ?_
    refine congrArg D.int ?_
    unfold nearI max0 min0
    (repeat' split) <;> omega)
end
section
local macro_rules | `(tactic| walk_at "call") => `(tactic| first | refine low_part_call (by walk_at "fact") (by walk_at "fact") ?_ | refine Heights_change_call (by walk_at "fact") (by walk_at "fact") ?_ | refine Heights_top_call (by walk_at "fact") (by walk_at "fact") ?_ | refine Heights_total_call (by walk_at "fact") ?_ | refine Heights_lies_at_call (by walk_at "fact") ?_ | refine Heights___init___call (by walk_at "fact") (by walk_at "fact") ?_ | refine anchor_call (by walk_at "fact") (by walk_at "fact") ?_ | refine held_top_call (by walk_at "fact") (by walk_at "fact") ?_ | refine scrolled_call (by walk_at "fact") (by walk_at "fact") (by walk_at "fact") ?_ | refine nearest_top_call (by walk_at "fact") (by walk_at "fact") ?_ | refine come_and_gone_call (by walk_at "fact") (by walk_at "fact") (by walk_at "fact") (by walk_at "fact") (by walk_at "fact") (by walk_at "fact") (by walk_at "fact") ?_ | refine with_more_call ?_)

def outB (c d : Int) (x : Int) : Bool := !(decide (c ≤ x) && decide (x < d))
def outO (a c d : Int) (i : Nat) : Option D := if outB c d (a + i) = true then some (.int (a + i)) else none
theorem outO_eq (a b c d : Int) : (List.range (b - a).toNat).filterMap (outO a c d) = (outF a b c d).map D.int := by
  unfold outF
  generalize (b - a).toNat = n
  induction n with
  | zero => rfl
  | succ n ih =>
    rw [List.range_succ, List.filterMap_append, ih, List.map_append, List.filter_append, List.map_append]
    congr 1
    simp only [List.filterMap_cons, List.filterMap_nil, List.map_cons, List.map_nil, List.filter_cons, List.filter_nil, outO, outB]
    split <;> simp_all
theorem outB_t {c d x : Int} (h1 : c ≤ x) (h2 : x < d) : outB c d x = false := by simp [outB, h1, h2]
theorem outB_f {c d x : Int} (h : ¬ (c ≤ x ∧ x < d)) : outB c d x = true := by
  unfold outB
  by_cases h1 : c ≤ x
  · have h2 : ¬ x < d := fun z => h ⟨h1, z⟩
    simp [h1, h2]
  · simp [h1]
set_option maxHeartbeats 2000000 in
theorem r_come_and_gone (G : Gc) (Ps : List Addr) (P_come_and_gone : Addr) (hP : P_come_and_gone ∈ Ps) : ∀ ds h Q, sp_come_and_gone Ps ds h Q → t_come_and_gone G Ps P_come_and_gone (endsD G.K Q) (startD N_come_and_gone ds) h := by
  rintro ds h Q ⟨a, b, c, d, rfl, f1, f2, f3, f4, f5, f6, hT, q⟩
  have hPt := hT _ hP
  show t_come_and_gone G Ps P_come_and_gone _ [some _, some _, none, none, none] h
  unfold t_come_and_gone
  walk_at "go"
  refine dtup_map (outO c a b) (by rw [rngD_len]; simp only [sizeLine]; omega) trivial ?_ ?_
  · intro i x Y N hx hY hN
    have hi : i < (d - c).toNat := by have := lt_some hx; rw [rngD_len] at this; exact this
    rw [rngD_get hi] at hx
    cases hx
    walk_at "st"
    walk_at "go"
    · exact hY _ (by unfold outO; rw [if_pos (outB_f (by omega))])
    · exact hN (by unfold outO; rw [outB_t (by omega) (by omega)]; rfl)
    · exact hY _ (by unfold outO; rw [if_pos (outB_f (by omega))])
  rw [rngD_len, outO_eq]
  walk_at "st"
  walk_at "go"
  refine dtup_map (outO a c d) (by rw [rngD_len]; simp only [sizeLine]; omega) trivial ?_ ?_
  · intro i x Y N hx hY hN
    have hi : i < (b - a).toNat := by have := lt_some hx; rw [rngD_len] at this; exact this
    rw [rngD_get hi] at hx
    cases hx
    walk_at "st"
    walk_at "go"
    · exact hY _ (by unfold outO; rw [if_pos (outB_f (by omega))])
    · exact hN (by unfold outO; rw [outB_t (by omega) (by omega)]; rfl)
    · exact hY _ (by unfold outO; rw [if_pos (outB_f (by omega))])
  rw [rngD_len, outO_eq]
  walk_at "st"
  walk_at "go"
  exact out q (.refl _)
end
section
local macro_rules | `(tactic| walk_at "call") => `(tactic| first | refine low_part_call (by walk_at "fact") (by walk_at "fact") ?_ | refine Heights_change_call (by walk_at "fact") (by walk_at "fact") ?_ | refine Heights_top_call (by walk_at "fact") (by walk_at "fact") ?_ | refine Heights_total_call (by walk_at "fact") ?_ | refine Heights_lies_at_call (by walk_at "fact") ?_ | refine Heights___init___call (by walk_at "fact") (by walk_at "fact") ?_ | refine anchor_call (by walk_at "fact") (by walk_at "fact") ?_ | refine held_top_call (by walk_at "fact") (by walk_at "fact") ?_ | refine scrolled_call (by walk_at "fact") (by walk_at "fact") (by walk_at "fact") ?_ | refine nearest_top_call (by walk_at "fact") (by walk_at "fact") ?_ | refine come_and_gone_call (by walk_at "fact") (by walk_at "fact") (by walk_at "fact") (by walk_at "fact") (by walk_at "fact") (by walk_at "fact") (by walk_at "fact") ?_ | refine with_more_call ?_)

def showI (s e hi o : Int) : Int := max0 0 (min0 e (o + hi) - max0 s o)
def absJ (x : Int) : Int := if x < 0 then -x else x
/-- the first is better -/
def betI (s e t hi a b : Int) : Prop := showI s e hi b < showI s e hi a ∨ (showI s e hi b = showI s e hi a ∧ (absJ (a - t) < absJ (b - t) ∨ (absJ (a - t) = absJ (b - t) ∧ a < b)))
theorem showI_le {s e hi : Int} (h1 : s < e) (h2 : 0 < hi) (o : Int) : showI s e hi o ≤ min0 (e - s) hi := by
  unfold showI max0 min0; omega
theorem near_shows {s e t hi : Int} (h1 : s < e) (h2 : 0 < hi) : showI s e hi (nearI s e t hi) = min0 (e - s) hi := by
  unfold showI nearI max0 min0; omega
theorem near_full {s e t hi : Int} (h1 : s < e) (h2 : 0 < hi) {o : Int} (h : showI s e hi o = min0 (e - s) hi) : (e - s ≥ hi ∧ s ≤ o ∧ o + hi ≤ e) ∨ (e - s < hi ∧ o ≤ s ∧ e ≤ o + hi) := by
  unfold showI max0 min0 at h; omega
theorem near_best {s e t hi o : Int} (h1 : s < e) (h2 : 0 < hi) (hne : o ≠ nearI s e t hi) : betI s e t hi (nearI s e t hi) o := by
  have a := showI_le h1 h2 o
  have b := near_shows (t := t) h1 h2
  by_cases c : showI s e hi o = min0 (e - s) hi
  · refine .inr ⟨by omega, ?_⟩
    have d := near_full (t := t) h1 h2 c
    clear a b c
    unfold nearI max0 min0 at *
    unfold absJ
    split at hne <;> (try split at hne) <;> (try split at hne) <;> omega
  · exact .inl (by omega)
theorem near_in {s e t hi T : Int} (h1 : s < e) (h2 : 0 < hi) (h3 : 0 ≤ s) (h4 : e ≤ T) (h5 : hi ≤ 20) (h6 : 0 ≤ t) (h7 : t < T + 4) : -30 ≤ nearI s e t hi ∧ nearI s e t hi < T + 30 := by
  unfold nearI max0 min0; omega

/-- the best of the first tops -/
def BestT (s e t hi : Int) (i : Nat) : Option Int → Prop
  | none => i = 0
  | some o => (∃ k : Nat, k < i ∧ o = -30 + (k : Int)) ∧ ∀ k : Nat, k < i → ¬ betI s e t hi (-30 + (k : Int)) o
def bestTD (s e t hi : Int) : Option Int → D
  | none => .non
  | some o => .tup [.int (0 - showI s e hi o), .int (absJ (o - t)), .int o]
theorem BestT.fin {s e t hi T : Int} (h1 : s < e) (h2 : 0 < hi) (h3 : 0 ≤ s) (h4 : e ≤ T) (h5 : hi ≤ 20) (h6 : 0 ≤ t) (h7 : t < T + 4) {r : Option Int} (h : BestT s e t hi (T + 60).toNat r) : r = some (nearI s e t hi) := by
  obtain ⟨n1, n2⟩ := near_in (s := s) (e := e) (t := t) (hi := hi) (T := T) h1 h2 h3 h4 h5 h6 h7
  cases r with
  | none => simp only [BestT] at h; omega
  | some o =>
    obtain ⟨_, h⟩ := h
    by_cases c : o = nearI s e t hi
    · rw [c]
    · have := h (nearI s e t hi + 30).toNat (by omega)
      rw [show -30 + ((nearI s e t hi + 30).toNat : Int) = nearI s e t hi from by omega] at this
      exact absurd (near_best h1 h2 c) this
instance (s e t hi a b : Int) : Decidable (betI s e t hi a b) := by unfold betI; infer_instance
theorem BestT.step {s e t hi : Int} {i : Nat} {r : Option Int} (h : BestT s e t hi i r) : BestT s e t hi (i + 1) (match r with | none => some (-30 + (i : Int)) | some o => if betI s e t hi (-30 + (i : Int)) o then some (-30 + (i : Int)) else some o) := by
  cases r with
  | none =>
    simp only [BestT] at h
    subst h
    refine ⟨⟨0, by omega, rfl⟩, fun k hk => ?_⟩
    obtain rfl : k = 0 := by omega
    unfold betI; omega
  | some o =>
    obtain ⟨⟨j, hj, rfl⟩, h⟩ := h
    simp only
    by_cases c : betI s e t hi (-30 + (i : Int)) (-30 + (j : Int))
    · rw [if_pos c]
      refine ⟨⟨i, by omega, rfl⟩, fun k hk z => ?_⟩
      by_cases e' : k = i
      · subst e'; unfold betI at z; omega
      · have := h k (by omega)
        unfold betI at *; omega
    · rw [if_neg c]
      refine ⟨⟨j, by omega, rfl⟩, fun k hk => ?_⟩
      by_cases e' : k = i
      · subst e'; exact c
      · exact h k (by omega)
end
section
local macro_rules | `(tactic| walk_at "call") => `(tactic| first | refine low_part_call (by walk_at "fact") (by walk_at "fact") ?_ | refine Heights_change_call (by walk_at "fact") (by walk_at "fact") ?_ | refine Heights_top_call (by walk_at "fact") (by walk_at "fact") ?_ | refine Heights_total_call (by walk_at "fact") ?_ | refine Heights_lies_at_call (by walk_at "fact") ?_ | refine Heights___init___call (by walk_at "fact") (by walk_at "fact") ?_ | refine anchor_call (by walk_at "fact") (by walk_at "fact") ?_ | refine held_top_call (by walk_at "fact") (by walk_at "fact") ?_ | refine scrolled_call (by walk_at "fact") (by walk_at "fact") (by walk_at "fact") ?_ | refine nearest_top_call (by walk_at "fact") (by walk_at "fact") ?_ | refine come_and_gone_call (by walk_at "fact") (by walk_at "fact") (by walk_at "fact") (by walk_at "fact") (by walk_at "fact") (by walk_at "fact") (by walk_at "fact") ?_ | refine with_more_call ?_)

theorem cut_to (xs : List D) (k : Nat) : cut xs none (some (k : Int)) = xs.take k := by
  unfold cut
  have e1 : HT.sIx xs.length 0 none = 0 := rfl
  have e2 : HT.sIx xs.length xs.length (some (k : Int)) = min k xs.length := by
    exact HT.sIx_nat _ _ _
  rw [e1, e2, List.drop_zero, Nat.sub_zero]
  by_cases z : k ≤ xs.length
  · rw [Nat.min_eq_left z]
  · rw [Nat.min_eq_right (by omega), List.take_of_length_le (Nat.le_refl _), List.take_of_length_le (by omega)]
theorem BoxAt.subX {h h' : DH} {b : Addr} (B : BoxAt h b) (s : Sub h h') : BoxAt h' b := by
  obtain ⟨dl, e1, e2⟩ := B
  exact ⟨dl, s _ _ e1, s _ _ e2⟩
theorem psum_all (xs : List Int) : psum xs xs.length = xs.sum := by simp [psum]
theorem getD_mem {xs : List Int} {i : Nat} (h : i < xs.length) : xs.getD i 0 ∈ xs := by
  rw [List.getD_eq_getElem?_getD, List.getElem?_eq_getElem h]; exact List.getElem_mem h
theorem psum_le {xs : List Int} (pos : ∀ x ∈ xs, 0 < x) {a b : Nat} (h : a ≤ b) (n : b ≤ xs.length) : psum xs a ≤ psum xs b := by
  induction b with
  | zero => obtain rfl : a = 0 := by omega
            omega
  | succ b ih =>
    rw [psum_succ (by omega)]
    have := pos _ (getD_mem (show b < xs.length by omega))
    by_cases c : a = b + 1
    · subst c; rw [psum_succ (by omega)]; omega
    · have := ih (by omega) (by omega); omega
theorem sum_bd {xs : List Int} {c : Int} (pos : ∀ x ∈ xs, 0 < x ∧ x ≤ c) : 0 ≤ xs.sum ∧ xs.sum ≤ c * xs.length := by
  induction xs with
  | nil => simp
  | cons x xs ih =>
    have := ih fun y hy => pos y (by simp [hy])
    have := pos x (by simp)
    simp only [List.sum_cons, List.length_cons, Int.natCast_add, Int.mul_add, Int.natCast_one, Int.mul_one]; omega
theorem no_place {xs : List Int} {y : Int} (hy : 0 ≤ y) (h : ∀ n, n < xs.length → ¬ (psum xs n ≤ y ∧ y < psum xs (n + 1))) : ∀ k, k ≤ xs.length → psum xs k ≤ y := by
  intro k
  induction k with
  | zero => intro _; rw [psum_zero]; exact hy
  | succ k ih =>
    intro hk
    have a := ih (by omega)
    have b := h k (by omega)
    omega
theorem cut_sum (rows : List Int) (k : Nat) : cut (rows.map D.int) none (some (k : Int)) = (rows.take k).map D.int := by rw [cut_to, List.map_take]
theorem SumL.cutN {p : Addr} {h : DH} {Q : RK} {rows : List Int} {k : Int} (hp : h p = some (.lst (cut (rows.map D.int) none (some k)))) (hk : 0 ≤ k) (q : Q (.int (psum rows k.toNat)) h) : SumL p h Q := by
  refine SumL.mk' (ns := rows.take k.toNat) ?_ q
  rw [hp]
  have e := cut_sum rows k.toNat
  rw [Int.toNat_of_nonneg hk] at e
  rw [e]
local macro_rules | `(tactic| walk_at "call") => `(tactic| ((with_reducible show SumL _ _ _); refine SumL.cutN (by walk_at "hl") (by omega) ?_))
local macro_rules | `(tactic| walk_at "fact") => `(tactic| exact HeiAt.sub (by assumption) (by walk_at "sub3"))
theorem lt3 (a b c a' b' c' : Int) : dataLt (toP (D.tup [.int a, .int b, .int c])) (toP (D.tup [.int a', .int b', .int c'])) = decide (a < a' ∨ (a = a' ∧ (b < b' ∨ (b = b' ∧ c < c')))) := by
  refine (dataLt_row [a, b, c] [a', b', c']).trans ?_
  simp [List.cons_lt_cons_iff]
theorem bestTD_lt (s e t hi a b : Int) : dataLt (toP (bestTD s e t hi (some a))) (toP (bestTD s e t hi (some b))) = decide (betI s e t hi a b) := by
  simp only [bestTD]
  rw [lt3]
  unfold betI
  refine decide_eq_decide.mpr ?_
  omega
def outI (a c d : Int) (i : Nat) : Option Int := if outB c d (a + i) = true then some (a + i) else none
theorem outI_eq (a b c d : Int) : (List.range (b - a).toNat).filterMap (outI a c d) = outF a b c d := by
  unfold outF
  generalize (b - a).toNat = n
  induction n with
  | zero => rfl
  | succ n ih =>
    rw [List.range_succ, List.filterMap_append, ih, List.map_append, List.filter_append]
    congr 1
    show _ = ([a + (n : Int)]).filter (outB c d)
    by_cases e : outB c d (a + n) = true
    · simp [outI, e]
    · simp [outI, e]
def PlaceP (rows : List Int) (t : Int) (i : Nat) : Option Nat → Prop
  | none => ∀ n, n < i → ¬ (psum rows n ≤ t ∧ t < psum rows (n + 1))
  | some n => n < i ∧ psum rows n ≤ t ∧ t < psum rows (n + 1)
def placeD : Option Nat → D
  | none => .non
  | some n => .int (n : Int)
def dueD (rows : List Int) (t : Int) : Option Nat → D
  | none => .tup [.int 0, .int t]
  | some n => .tup [.int (n : Int), .int (t - psum rows n)]
theorem anchor_due {C p ps pr : Addr} {rows sums : List Int} {top : Int} {s : Option Nat} {h : DH} {Q : RK} (g : HeiAt C p ps pr rows sums h) (t0 : 0 ≤ top) (pos : ∀ x ∈ rows, 0 < x) (hs : PlaceP rows top rows.length s) (q : Q (dueD rows top s) h) : sp_anchor C [.ref p, .int top] h Q := by
  refine anchor_call g t0 ⟨fun z => ?_, fun n a1 a2 a3 => ?_⟩
  · cases s with
    | none => exact q
    | some m =>
      obtain ⟨b1, b2, b3⟩ := hs
      have := psum_le pos (show m + 1 ≤ rows.length from b1) (Nat.le_refl _)
      omega
  · cases s with
    | none => exact absurd ⟨a2, a3⟩ (hs n a1)
    | some m =>
      obtain ⟨b1, b2, b3⟩ := hs
      obtain rfl := psum_one pos a1 a2 a3 b1 b2 b3
      exact q
local macro_rules | `(tactic| walk_at "call") => `(tactic| refine anchor_due (by walk_at "fact") (by omega) (by assumption) (by assumption) ?_)
set_option maxHeartbeats 4000000 in
theorem r_law (G : Gc) (Ps : List Addr) (C_Heights : Addr) (hC_Heights : Flds_Heights G.K C_Heights) : ∀ ds h Q, sp_lawT Ps ds h Q → t_law G C_Heights Ps (endsD G.K Q) (startD N_law ds) h := by
  rintro ds h Q ⟨ns, rfl, hl, hT, q⟩
  have hq : ∀ h', Sub h h' → Out G.K Q (.bl true) h' := fun h' s => out q s
  have hTs : ∀ h', Sub h h' → Tbs Ps h' := fun h' s => Tbs.sub hT s
  clear q hT
  show t_law G C_Heights Ps _ [some _, none, none, none, none, none, none, none, none, none, none, none, none, none, none, none, none, none, none, none, none, none, none, none] h
  unfold t_law
  walk_at "w"
  refine ⟨ns, _, _, rfl, by decide, by decide, by decide, by decide, fun b dl hb hdl hne => ?_⟩
  refine law_start hb hdl hne (fun h0 hB hS => ?_)
  clear hb hdl hne
  have hT : Tbs Ps h0 := hTs h0 hS
  walk_at "go"
  rename_i z hz0 hz1 p hp
  refine dlcW_draw D.int (fun z => 0 < z ∧ z ≤ 8) (by simp only [sizeLine]; omega) (fun _ => trivial) ?_ ?_
  · intro i bs Y N hi hY
    walk_at "st"
    walk_at "go"
    exact hY _ _ ⟨by omega, by omega⟩ (.refl _)
  intro rows hrl hrb
  have hpos : ∀ x ∈ rows, 0 < x := fun x hx => (hrb x hx).1
  walk_at "st"
  walk_at "go"
  intro ps pr sums m1 m2 n1 n2 n3 hok
  refine ⟨rfl, ?_⟩
  rename_i pw hpw
  have hH0 : HeiAt C_Heights pw ps pr rows sums (dupd (dupd (dupd (dupd (dupd h0 p (.lst (rows.map D.int))) pw (.ins C_Heights [] [])) pw (heiO C_Heights ps pr)) ps (.lst (sums.map D.int))) pr (.lst (rows.map D.int))) :=
    ⟨by walk_at "hl", by walk_at "hl", by walk_at "hl", n1, n2, n3, hok, by omega⟩
  obtain ⟨h1, eh⟩ : ∃ h1, h1 = dupd (dupd (dupd (dupd (dupd h0 p (.lst (rows.map D.int))) pw (.ins C_Heights [] [])) pw (heiO C_Heights ps pr)) ps (.lst (sums.map D.int))) pr (.lst (rows.map D.int)) := ⟨_, rfl⟩
  have hS1 : Sub h0 h1 := by rw [eh]; walk_at "sub3"
  have hp1 : h1 p = some (.lst (rows.map D.int)) := by rw [eh]; walk_at "hl"
  have hB1 : BoxAt h1 b := BoxAt.subX hB hS1
  have hT1 : Tbs Ps h1 := hT.sub hS1
  have hH1 : HeiAt C_Heights pw ps pr rows sums h1 := by rw [eh]; exact hH0
  rw [← eh]
  have hS2 : Sub h h1 := hS.trans hS1
  clear hH0 eh m1 m2 hpw hp hT hB hS hS1
  walk_at "st"
  walk_at "go"
  rename_i high0 hi0 hi1
  obtain ⟨sm0, sm1⟩ := sum_bd hrb
  have hlen1 : 0 < rows.length := by omega
  have hlen2 : rows.length ≤ 8 := by omega
  walk_at "go"
  rename_i top t0 t1
  walk_at "for"
  refine dforW_rng0 (fun s : Option Nat => [(8, placeD s)]) (fun _ => h1) (fun i s => PlaceP rows top i s) none rfl rfl (fun n hn => absurd hn (by omega)) (fun _ _ _ => trivial) ?_ ?_
  · rintro i s N hi hs hN
    rw [List.length_map, tn0] at hi
    cases s with
    | none =>
      simp only [placeD]
      walk_at "st"
      walk_at "go"
      · rename_i c1 c2
        refine hN (some i) _ _ ⟨by omega, by omega, by omega⟩ ?_
        walk_at "wk"
      · rename_i c1 c2
        refine hN none _ _ (fun n hn => by by_cases e : n = i; (subst e; omega); exact hs n (by omega)) ?_
        walk_at "wk"
      · rename_i c1
        refine hN none _ _ (fun n hn => by by_cases e : n = i; (subst e; omega); exact hs n (by omega)) ?_
        walk_at "wk"
    | some n =>
      simp only [placeD]
      walk_at "st"
      walk_at "go"
      refine hN (some n) _ _ ⟨by have := hs.1; omega, hs.2⟩ ?_
      walk_at "wk"
  rintro s hs
  rw [List.length_map, tn0] at hs
  walk_at "go"
  refine RSeqC.cut (fun _ : Unit => [(9, dueD rows top s)]) (fun _ => h1) (fun _ => True) ?_ ?_
  · intro N hN
    cases s with
    | none =>
      simp only [placeD]
      walk_at "st"
      walk_at "go"
      refine hN () _ _ trivial ?_
      walk_at "wk"
    | some n =>
      simp only [placeD]
      walk_at "st"
      walk_at "go"
      refine hN () _ _ trivial ?_
      walk_at "wk"
  rintro _ _
  have hdat : dat 20 (dueD rows top s) = true := by cases s <;> rfl
  walk_at "st"
  walk_at "go"
  rw [List.length_map]
  refine draw_call hB1 (by omega) (fun z hz0 hz1 => ?_)
  obtain ⟨k, rfl⟩ := Int.eq_ofNat_of_zero_le hz0
  have hk : k < rows.length := by omega
  have hix := sums_at (sums := rows) hk
  have hall := psum_all rows
  have hr0 := hpos _ (getD_mem hk)
  have hr8 := (hrb _ (getD_mem hk)).2
  have hps := psum_succ hk
  have hle := psum_le hpos (show k + 1 ≤ rows.length from hk) (Nat.le_refl _)
  have hge := psum_le hpos (Nat.zero_le k) (Nat.le_of_lt hk)
  rw [psum_zero] at hge
  walk_at "go"
  refine same_callE (congrArg D.int (by rw [hall, Int.toNat_natCast]; unfold max0 min0; omega)) rfl ?_
  simp only [Int.toNat_natCast]
  walk_at "go"
  walk_at "for"
  have e3 : [D.str (Str.ofString "start"), D.str (Str.ofString "end"), D.str (Str.ofString "middle")] = (List.range 3).map fun j : Nat => D.str (wayS j) := rfl
  rw [e3]
  refine dforW_eachM (by first | trivial | walk_at "hl") ?_ ?_
  · intro i j N hj hN
    have hj3 : j < 3 := by have := List.mem_of_getElem? hj; simpa using this
    walk_at "st"
    walk_at "go"
    refine ⟨[(.inr (Str.ofString "start"), _), (.inr (Str.ofString "end"), _), (.inr (Str.ofString "middle"), _)], rfl, by simp, ?_⟩
    walk_at "go"
    refine ⟨_, ⟨_, _, .inr (wayS j), rfl, dupd_same, rfl, (way_look _ _ _ hj3).symm⟩, ?_⟩
    have z : j = 0 ∨ j = 1 ∨ j = 2 := by omega
    rcases z with rfl | rfl | rfl
    all_goals (
      walk_at "go"
      refine same_callE (congrArg D.int (by simp only [wayI]; rw [hall]; unfold max0 min0; (repeat' split) <;> omega)) rfl ?_
      walk_at "go"
      exact hN _ _ (by walk_at "wk"))
  walk_at "go"
  refine RForW.to h1 (by walk_at "sub3") ?_
  simp only [keepD]
  walk_at "go"
  rw [show (rows.sum + 30 - (0 - 30)).toNat = (rows.sum + 60).toNat from by omega, show (0 - 30 : Int) = -30 from rfl]
  refine dforW_rng (fun s : Option Int => [(15, bestTD (psum rows k) (psum rows k + rows.getD k 0) top (1 + high0) s)]) (fun _ => h1) (fun i s => BestT (psum rows k) (psum rows k + rows.getD k 0) top (1 + high0) i s) none rfl rfl rfl (fun _ _ _ => trivial) ?_ ?_
  · rintro i s N hi hs hN
    have hst := hs.step
    cases s with
    | none =>
      simp only [bestTD]
      walk_at "st"
      walk_at "go"
      refine hN _ _ _ hst ?_
      simp only [bestTD, showI, max0, min0, absJ]
      walk_at "wk"
    | some o =>
      simp only [bestTD]
      walk_at "st"
      walk_at "go"
      refine ⟨⟨rfl, rfl, rfl, rfl⟩, ?_⟩
      have e := bestTD_lt (psum rows k) (psum rows k + rows.getD k 0) top (1 + high0) (-30 + (i : Int)) o
      generalize hd : dataLt _ _ = bb
      obtain rfl : bb = _ := hd.symm.trans e
      walk_at "go"
      · rename_i c
        simp only at hst
        rw [if_pos c] at hst
        refine hN _ _ _ hst ?_
        simp only [bestTD, showI, max0, min0, absJ]
        walk_at "wk"
      · rename_i c
        simp only at hst
        rw [if_neg c] at hst
        refine hN _ _ _ hst ?_
        simp only [bestTD, showI, max0, min0, absJ]
        walk_at "wk"
  rintro s hs
  obtain rfl := hs.fin (T := rows.sum) (by omega) (by omega) (by omega) (by omega) (by omega) (by omega) (by omega)
  simp only [bestTD]
  walk_at "st"
  walk_at "go"
  rename_i b0 b00 b01 b1 b10 b11 a0 a00 a01 a1 a10 a11 pc hpc
  refine dlcW_rng D.int (outI a0 b0 (b0 + b1)) (by simp only [sizeLine]; omega) (fun _ => trivial) ?_ ?_
  · intro i acc Y N hi hY hN
    walk_at "st"
    walk_at "go"
    · exact hY _ _ (by unfold outI; rw [if_pos (outB_f (by omega))]) (by walk_at "sub3")
    · exact hY _ _ (by unfold outI; rw [if_pos (outB_f (by omega))]) (by walk_at "sub3")
    · exact hN _ (by unfold outI; rw [outB_t (by omega) (by omega)]; rfl) (by walk_at "sub3")
  rw [outI_eq]
  walk_at "st"
  walk_at "go"
  rename_i pd hpd
  refine dlcW_rng D.int (outI b0 a0 (a0 + a1)) (by simp only [sizeLine]; omega) (fun _ => trivial) ?_ ?_
  · intro i acc Y N hi hY hN
    walk_at "st"
    walk_at "go"
    · exact hY _ _ (by unfold outI; rw [if_pos (outB_f (by omega))]) (by walk_at "sub3")
    · exact hY _ _ (by unfold outI; rw [if_pos (outB_f (by omega))]) (by walk_at "sub3")
    · exact hN _ (by unfold outI; rw [outB_t (by omega) (by omega)]; rfl) (by walk_at "sub3")
  rw [outI_eq]
  walk_at "st"
  walk_at "go"
  refine ⟨dat_tup (dats_all (fun d hd => by simp only [List.mem_cons, List.not_mem_nil, or_false] at hd; rcases hd with rfl | rfl <;> exact dat_tup (dats_ints _ _))), ?_⟩
  walk_at "go"
  exact hq _ (by walk_at "sub3")
theorem r__wall (G : Gc) : ∀ ds h Q, sp__wall ds h Q → t__wall G (endsD G.K Q) (startD N__wall ds) h := fun _ _ _ q => q.elim
theorem r_Heights_shown (G : Gc) (C_Heights : Addr) (hC_Heights : Flds_Heights G.K C_Heights) : ∀ ds h Q, sp_Heights_shown C_Heights ds h Q → t_Heights_shown G C_Heights (endsD G.K Q) (startD N_Heights_shown ds) h := fun _ _ _ q => q.elim
end
theorem ok__wall {G : Gc} {f : Addr} {fd : FuncData} (T : Gx G) (A : At G "_wall" "_wall" s__wall f fd) (B : Binds G.K fd ["k"] []) : DDef G "_wall" 1 sp__wall :=
  ddef_of A sc__wall B (by walk_at "len") (d__wall T) (r__wall G)
theorem ok_low_part {G : Gc} {f : Addr} {fd : FuncData} (T : Gx G) (A : At G "low_part" "low_part" s_low_part f fd) (B : Binds G.K fd ["number"] []) : DDef G "low_part" 1 sp_low_part :=
  ddef_of A sc_low_part B (by walk_at "len") (d_low_part T) (r_low_part G)
theorem ok_with_more {G : Gc} {f : Addr} {fd : FuncData} (T : Gx G) (A : At G "with_more" "with_more" s_with_more f fd) (B : Binds G.K fd ["window", "many", "more"] []) : DDef G "with_more" 1 sp_with_more :=
  ddef_of A sc_with_more B (by walk_at "len") (d_with_more T) (r_with_more G)
theorem ok__law_cell {G : Gc} {f : Addr} {fd : FuncData} (T : Gx G) (A : At G "_law_cell" "_law_cell" s__law_cell f fd) (B : Binds G.K fd ["script", "k"] []) : DDef G "_law_cell" 1 sp__law_cell :=
  ddef_of A sc__law_cell B (by walk_at "len") (d__law_cell T) (r__law_cell G)
theorem ok__law_draw {G : Gc} {f : Addr} {fd : FuncData} (T : Gx G) (A : At G "_law_draw" "_law_draw" s__law_draw f fd) (B : Binds G.K fd ["box", "many"] []) : DDef G "_law_draw" 1 sp__law_draw :=
  ddef_ofH A sc__law_draw B (by walk_at "len") (d__law_draw T) (r__law_draw G)
theorem ok_Heights_change {G : Gc} {f : Addr} {fd : FuncData} (T : Gx G) (A : Fun G.K "change" "Heights.change" s_Heights_change f fd) (B : Binds G.K fd ["self", "place", "own"] []) {C_Heights : Addr} (hC_Heights : Flds_Heights G.K C_Heights) (F_low_part : DDef G "low_part" 1 sp_low_part) (M : Meth G.K C_Heights "change" f) (c : Cls G.K C_Heights) : DMeth G C_Heights "change" 2 (sp_Heights_change C_Heights) :=
  ⟨f, fd, _, fnok_of A sc_Heights_change (by walk_at "len") (d_Heights_change T F_low_part) (fun ds h' Q q H r => ⟨h', r, r_Heights_change G C_Heights hC_Heights ds h' Q q⟩), M, c, B⟩
theorem ok_Heights_top {G : Gc} {f : Addr} {fd : FuncData} (T : Gx G) (A : Fun G.K "top" "Heights.top" s_Heights_top f fd) (B : Binds G.K fd ["self", "place"] []) {C_Heights : Addr} (hC_Heights : Flds_Heights G.K C_Heights) (F_low_part : DDef G "low_part" 1 sp_low_part) (M : Meth G.K C_Heights "top" f) (c : Cls G.K C_Heights) : DMeth G C_Heights "top" 2 (sp_Heights_top C_Heights) :=
  ⟨f, fd, _, fnok_of A sc_Heights_top (by walk_at "len") (d_Heights_top T F_low_part) (fun ds h' Q q H r => ⟨h', r, r_Heights_top G C_Heights hC_Heights ds h' Q q⟩), M, c, B⟩
theorem ok_Heights_shown {G : Gc} {f : Addr} {fd : FuncData} (T : Gx G) (A : Fun G.K "shown" "Heights.shown" s_Heights_shown f fd) (B : Binds G.K fd ["self", "top", "high"] []) {C_Heights : Addr} (hC_Heights : Flds_Heights G.K C_Heights) (F__wall : DDef G "_wall" 1 sp__wall) (M : Meth G.K C_Heights "shown" f) (c : Cls G.K C_Heights) : DMeth G C_Heights "shown" 2 (sp_Heights_shown C_Heights) :=
  ⟨f, fd, _, fnok_of A sc_Heights_shown (by walk_at "len") (d_Heights_shown T F__wall) (fun ds h' Q q H r => ⟨h', r, r_Heights_shown G C_Heights hC_Heights ds h' Q q⟩), M, c, B⟩
theorem ok_come_and_gone {G : Gc} {f : Addr} {fd : FuncData} (T : Gx G) (A : At G "come_and_gone" "come_and_gone" s_come_and_gone f fd) (B : Binds G.K fd ["before", "after"] []) {Ps : List Addr} {P_come_and_gone : Addr} (hP : P_come_and_gone ∈ Ps) (hT : ∃ c, GxR.TabB G.base G.mg c P_come_and_gone ∧ fd.code = .ref c) : DDef G "come_and_gone" 2 (sp_come_and_gone Ps) :=
  ddef_of A sc_come_and_gone B (by walk_at "len") (d_come_and_gone T) (r_come_and_gone G Ps P_come_and_gone hP) (fun P e => by cases e; exact hT)
theorem ok__law_digits {G : Gc} {f : Addr} {fd : FuncData} (T : Gx G) (A : At G "_law_digits" "_law_digits" s__law_digits f fd) (B : Binds G.K fd ["script", "first", "last"] []) (F__law_cell : DDef G "_law_cell" 1 sp__law_cell) : DDef G "_law_digits" 2 sp__law_digits :=
  ddef_of A sc__law_digits B (by walk_at "len") (d__law_digits T F__law_cell) (r__law_digits G)
theorem ok_Heights___init__ {G : Gc} {f : Addr} {fd : FuncData} (T : Gx G) (A : Fun G.K "__init__" "Heights.__init__" s_Heights___init__ f fd) (B : Binds G.K fd ["self", "heights"] []) {C_Heights : Addr} (hC_Heights : Flds_Heights G.K C_Heights) (F_Heights_change : DMeth G C_Heights "change" 2 (sp_Heights_change C_Heights)) (M : Mk G.K C_Heights f) (hm : G.mg "Heights" = some (.ref C_Heights)) : DMake G "Heights" C_Heights 3 (sp_Heights___init__ C_Heights) :=
  ⟨f, fd, _, fnok_of A sc_Heights___init__ (by walk_at "len") (d_Heights___init__ T F_Heights_change) (fun ds h' Q q H r => ⟨h', r, r_Heights___init__ G C_Heights hC_Heights ds h' Q q⟩), M, hm, B⟩
theorem ok_Heights_total {G : Gc} {f : Addr} {fd : FuncData} (T : Gx G) (A : Fun G.K "total" "Heights.total" s_Heights_total f fd) (B : Binds G.K fd ["self"] []) {C_Heights : Addr} (hC_Heights : Flds_Heights G.K C_Heights) (F_Heights_top : DMeth G C_Heights "top" 2 (sp_Heights_top C_Heights)) (M : Meth G.K C_Heights "total" f) (c : Cls G.K C_Heights) : DMeth G C_Heights "total" 3 (sp_Heights_total C_Heights) :=
  ⟨f, fd, _, fnok_of A sc_Heights_total (by walk_at "len") (d_Heights_total T F_Heights_top) (fun ds h' Q q H r => ⟨h', r, r_Heights_total G C_Heights hC_Heights ds h' Q q⟩), M, c, B⟩
theorem ok_nearest_top {G : Gc} {f : Addr} {fd : FuncData} (T : Gx G) (A : At G "nearest_top" "nearest_top" s_nearest_top f fd) (B : Binds G.K fd ["heights", "place", "top", "high"] []) {C_Heights : Addr} (hC_Heights : Flds_Heights G.K C_Heights) (F_Heights_top : DMeth G C_Heights "top" 2 (sp_Heights_top C_Heights)) : DDef G "nearest_top" 3 (sp_nearest_top C_Heights) :=
  ddef_of A sc_nearest_top B (by walk_at "len") (d_nearest_top T F_Heights_top) (r_nearest_top G C_Heights hC_Heights)
theorem ok__law_box {G : Gc} {f : Addr} {fd : FuncData} (T : Gx G) (A : At G "_law_box" "_law_box" s__law_box f fd) (B : Binds G.K fd ["script", "first", "last"] []) (F__law_digits : DDef G "_law_digits" 2 sp__law_digits) : DDef G "_law_box" 3 sp__law_box :=
  ddef_of A sc__law_box B (by walk_at "len") (d__law_box T F__law_digits) (r__law_box G)
theorem ok_Heights_lies_at {G : Gc} {f : Addr} {fd : FuncData} (T : Gx G) (A : Fun G.K "lies_at" "Heights.lies_at" s_Heights_lies_at f fd) (B : Binds G.K fd ["self", "offset"] []) {C_Heights : Addr} (hC_Heights : Flds_Heights G.K C_Heights) (F_Heights_total : DMeth G C_Heights "total" 3 (sp_Heights_total C_Heights)) (M : Meth G.K C_Heights "lies_at" f) (c : Cls G.K C_Heights) : DMeth G C_Heights "lies_at" 4 (sp_Heights_lies_at C_Heights) :=
  ⟨f, fd, _, fnok_of A sc_Heights_lies_at (by walk_at "len") (d_Heights_lies_at T F_Heights_total) (fun ds h' Q q H r => ⟨h', r, r_Heights_lies_at G C_Heights hC_Heights ds h' Q q⟩), M, c, B⟩
theorem ok_held_top {G : Gc} {f : Addr} {fd : FuncData} (T : Gx G) (A : At G "held_top" "held_top" s_held_top f fd) (B : Binds G.K fd ["heights", "place", "within", "high"] []) {C_Heights : Addr} (hC_Heights : Flds_Heights G.K C_Heights) (F_Heights_top : DMeth G C_Heights "top" 2 (sp_Heights_top C_Heights)) (F_Heights_total : DMeth G C_Heights "total" 3 (sp_Heights_total C_Heights)) : DDef G "held_top" 4 (sp_held_top C_Heights) :=
  ddef_of A sc_held_top B (by walk_at "len") (d_held_top T F_Heights_top F_Heights_total) (r_held_top G C_Heights hC_Heights)
theorem ok_scrolled {G : Gc} {f : Addr} {fd : FuncData} (T : Gx G) (A : At G "scrolled" "scrolled" s_scrolled f fd) (B : Binds G.K fd ["heights", "place", "high", "way"] []) {C_Heights : Addr} (hC_Heights : Flds_Heights G.K C_Heights) (F_Heights_top : DMeth G C_Heights "top" 2 (sp_Heights_top C_Heights)) (F_Heights_total : DMeth G C_Heights "total" 3 (sp_Heights_total C_Heights)) : DDef G "scrolled" 4 (sp_scrolled C_Heights) :=
  ddef_of A sc_scrolled B (by walk_at "len") (d_scrolled T F_Heights_top F_Heights_total) (r_scrolled G C_Heights hC_Heights)
theorem ok_anchor {G : Gc} {f : Addr} {fd : FuncData} (T : Gx G) (A : At G "anchor" "anchor" s_anchor f fd) (B : Binds G.K fd ["heights", "top"] []) {C_Heights : Addr} (hC_Heights : Flds_Heights G.K C_Heights) (F_Heights_lies_at : DMeth G C_Heights "lies_at" 4 (sp_Heights_lies_at C_Heights)) (F_Heights_top : DMeth G C_Heights "top" 2 (sp_Heights_top C_Heights)) : DDef G "anchor" 5 (sp_anchor C_Heights) :=
  ddef_of A sc_anchor B (by walk_at "len") (d_anchor T F_Heights_lies_at F_Heights_top) (r_anchor G C_Heights hC_Heights)
theorem all_mk {l : PySem.W.OpenLaw} {w : World} {K : PySem.W.Frag} {h : Heap} {mg : Str → Option Value} {fa : Addr} (X : K.In h) (G : h.Ns mainGlobals mg) (hfa : mg "law" = some (.ref fa))
    {C_Heights : Addr}
    {od1 an1 : Option Addr} {sl1 : Array (Option Value)} {oc1 kV1 dc1 pm1 cd1 ct1 : Value} {f1 : Addr}
    {od2 an2 : Option Addr} {sl2 : Array (Option Value)} {oc2 kV2 dc2 pm2 cd2 ct2 : Value} {f2 : Addr}
    {od3 an3 : Option Addr} {sl3 : Array (Option Value)} {oc3 kV3 dc3 pm3 cd3 ct3 : Value} {f3 : Addr}
    {od4 an4 : Option Addr} {sl4 : Array (Option Value)} {oc4 kV4 dc4 pm4 cd4 ct4 : Value} {f4 : Addr}
    {od5 an5 : Option Addr} {sl5 : Array (Option Value)} {oc5 kV5 dc5 pm5 cd5 ct5 : Value} {f5 : Addr}
    {od6 an6 : Option Addr} {sl6 : Array (Option Value)} {oc6 kV6 dc6 pm6 cd6 ct6 : Value} {f6 : Addr}
    {od7 an7 : Option Addr} {sl7 : Array (Option Value)} {oc7 kV7 dc7 pm7 cd7 ct7 : Value} {f7 : Addr}
    {od8 an8 : Option Addr} {sl8 : Array (Option Value)} {oc8 kV8 dc8 pm8 cd8 ct8 : Value} {f8 : Addr}
    {od9 an9 : Option Addr} {sl9 : Array (Option Value)} {oc9 kV9 dc9 pm9 cd9 ct9 : Value} {f9 : Addr}
    {od10 an10 : Option Addr} {sl10 : Array (Option Value)} {oc10 kV10 dc10 pm10 cd10 ct10 : Value} {f10 : Addr}
    {od11 an11 : Option Addr} {sl11 : Array (Option Value)} {oc11 kV11 dc11 pm11 cd11 ct11 : Value} {f11 : Addr}
    {od12 an12 : Option Addr} {sl12 : Array (Option Value)} {oc12 kV12 dc12 pm12 cd12 ct12 : Value} {f12 : Addr}
    {od13 an13 : Option Addr} {sl13 : Array (Option Value)} {oc13 kV13 dc13 pm13 cd13 ct13 : Value} {f13 : Addr}
    {od14 an14 : Option Addr} {sl14 : Array (Option Value)} {oc14 kV14 dc14 pm14 cd14 ct14 : Value} {f14 : Addr}
    {od15 an15 : Option Addr} {sl15 : Array (Option Value)} {oc15 kV15 dc15 pm15 cd15 ct15 : Value} {f15 : Addr}
    {od16 an16 : Option Addr} {sl16 : Array (Option Value)} {oc16 kV16 dc16 pm16 cd16 ct16 : Value} {f16 : Addr}
    {od17 an17 : Option Addr} {sl17 : Array (Option Value)} {oc17 kV17 dc17 pm17 cd17 ct17 : Value} {f17 : Addr}
    {od18 an18 : Option Addr} {sl18 : Array (Option Value)} {oc18 kV18 dc18 pm18 cd18 ct18 : Value} {f18 : Addr}
    {od19 an19 : Option Addr} {sl19 : Array (Option Value)} {oc19 kV19 dc19 pm19 cd19 ct19 : Value} {f19 : Addr}
    {od20 an20 : Option Addr} {sl20 : Array (Option Value)} {oc20 kV20 dc20 pm20 cd20 ct20 : Value} {f20 : Addr}
    (aA_Heights : PySem.W.nsIn K mainGlobals "Heights" = some (some (.ref C_Heights)))
    (kA_Heights : PySem.W.keepIn K (.ref C_Heights) = true)
    (mA_Heights : PySem.W.makesIn K C_Heights = true)
    (gA_Heights : PySem.W.plainGet K C_Heights Str.empty = true)
    (dA_Heights : PySem.W.hasDictIn K C_Heights = true)
    (oA_Heights : PySem.W.plainOver K C_Heights = true)
    (sA_Heights : PySem.W.findIn K (.ref C_Heights) "__setattr__" = some (some (.builtin "object.__setattr__")))
    (nA_Heights_rows : PySem.W.findIn K (.ref C_Heights) "rows" = some none)
    (nA_Heights_sums : PySem.W.findIn K (.ref C_Heights) "sums" = some none)
    (a1 : PySem.W.nsIn K mainGlobals "_wall" = some (some (.ref f1)))
    (l1 : K.lookup f1 = some ⟨oc1, od1, .func (PySem.W.fnOf "_wall" "_wall" (defArgs s__wall) (defBody s__wall) (defScope s__wall) .none kV1 dc1 pm1 an1 cd1 ct1), sl1⟩)
    (c1 : PySem.W.codeIn K cd1 "_wall" = true)
    (k1 : PySem.W.keepIn K (.ref f1) = true)
    (a2 : PySem.W.nsIn K mainGlobals "low_part" = some (some (.ref f2)))
    (l2 : K.lookup f2 = some ⟨oc2, od2, .func (PySem.W.fnOf "low_part" "low_part" (defArgs s_low_part) (defBody s_low_part) (defScope s_low_part) .none kV2 dc2 pm2 an2 cd2 ct2), sl2⟩)
    (c2 : PySem.W.codeIn K cd2 "low_part" = true)
    (k2 : PySem.W.keepIn K (.ref f2) = true)
    (a3 : PySem.W.nsIn K mainGlobals "with_more" = some (some (.ref f3)))
    (l3 : K.lookup f3 = some ⟨oc3, od3, .func (PySem.W.fnOf "with_more" "with_more" (defArgs s_with_more) (defBody s_with_more) (defScope s_with_more) .none kV3 dc3 pm3 an3 cd3 ct3), sl3⟩)
    (c3 : PySem.W.codeIn K cd3 "with_more" = true)
    (k3 : PySem.W.keepIn K (.ref f3) = true)
    (a4 : PySem.W.nsIn K mainGlobals "_law_cell" = some (some (.ref f4)))
    (l4 : K.lookup f4 = some ⟨oc4, od4, .func (PySem.W.fnOf "_law_cell" "_law_cell" (defArgs s__law_cell) (defBody s__law_cell) (defScope s__law_cell) .none kV4 dc4 pm4 an4 cd4 ct4), sl4⟩)
    (c4 : PySem.W.codeIn K cd4 "_law_cell" = true)
    (k4 : PySem.W.keepIn K (.ref f4) = true)
    (a5 : PySem.W.nsIn K mainGlobals "_law_draw" = some (some (.ref f5)))
    (l5 : K.lookup f5 = some ⟨oc5, od5, .func (PySem.W.fnOf "_law_draw" "_law_draw" (defArgs s__law_draw) (defBody s__law_draw) (defScope s__law_draw) .none kV5 dc5 pm5 an5 cd5 ct5), sl5⟩)
    (c5 : PySem.W.codeIn K cd5 "_law_draw" = true)
    (k5 : PySem.W.keepIn K (.ref f5) = true)
    (t6 : PySem.W.findIn K (.ref C_Heights) "change" = some (some (.ref f6)))
    (i6 : PySem.W.isFn K (.ref f6) = true)
    (l6 : K.lookup f6 = some ⟨oc6, od6, .func (PySem.W.fnOf "change" "Heights.change" (defArgs s_Heights_change) (defBody s_Heights_change) (defScope s_Heights_change) .none kV6 dc6 pm6 an6 cd6 ct6), sl6⟩)
    (c6 : PySem.W.codeIn K cd6 "Heights.change" = true)
    (k6 : PySem.W.keepIn K (.ref f6) = true)
    (t7 : PySem.W.findIn K (.ref C_Heights) "top" = some (some (.ref f7)))
    (i7 : PySem.W.isFn K (.ref f7) = true)
    (l7 : K.lookup f7 = some ⟨oc7, od7, .func (PySem.W.fnOf "top" "Heights.top" (defArgs s_Heights_top) (defBody s_Heights_top) (defScope s_Heights_top) .none kV7 dc7 pm7 an7 cd7 ct7), sl7⟩)
    (c7 : PySem.W.codeIn K cd7 "Heights.top" = true)
    (k7 : PySem.W.keepIn K (.ref f7) = true)
    (t8 : PySem.W.findIn K (.ref C_Heights) "shown" = some (some (.ref f8)))
    (i8 : PySem.W.isFn K (.ref f8) = true)
    (l8 : K.lookup f8 = some ⟨oc8, od8, .func (PySem.W.fnOf "shown" "Heights.shown" (defArgs s_Heights_shown) (defBody s_Heights_shown) (defScope s_Heights_shown) .none kV8 dc8 pm8 an8 cd8 ct8), sl8⟩)
    (c8 : PySem.W.codeIn K cd8 "Heights.shown" = true)
    (k8 : PySem.W.keepIn K (.ref f8) = true)
    (a9 : PySem.W.nsIn K mainGlobals "come_and_gone" = some (some (.ref f9)))
    (l9 : K.lookup f9 = some ⟨oc9, od9, .func (PySem.W.fnOf "come_and_gone" "come_and_gone" (defArgs s_come_and_gone) (defBody s_come_and_gone) (defScope s_come_and_gone) .none kV9 dc9 pm9 an9 cd9 ct9), sl9⟩)
    (c9 : PySem.W.codeIn K cd9 "come_and_gone" = true)
    (k9 : PySem.W.keepIn K (.ref f9) = true)
    (u9 : DL.tabOk K "come_and_gone" = true)
    (a10 : PySem.W.nsIn K mainGlobals "_law_digits" = some (some (.ref f10)))
    (l10 : K.lookup f10 = some ⟨oc10, od10, .func (PySem.W.fnOf "_law_digits" "_law_digits" (defArgs s__law_digits) (defBody s__law_digits) (defScope s__law_digits) .none kV10 dc10 pm10 an10 cd10 ct10), sl10⟩)
    (c10 : PySem.W.codeIn K cd10 "_law_digits" = true)
    (k10 : PySem.W.keepIn K (.ref f10) = true)
    (t11 : PySem.W.findIn K (.ref C_Heights) "__init__" = some (some (.ref f11)))
    (i11 : PySem.W.isFn K (.ref f11) = true)
    (l11 : K.lookup f11 = some ⟨oc11, od11, .func (PySem.W.fnOf "__init__" "Heights.__init__" (defArgs s_Heights___init__) (defBody s_Heights___init__) (defScope s_Heights___init__) .none kV11 dc11 pm11 an11 cd11 ct11), sl11⟩)
    (c11 : PySem.W.codeIn K cd11 "Heights.__init__" = true)
    (k11 : PySem.W.keepIn K (.ref f11) = true)
    (t12 : PySem.W.findIn K (.ref C_Heights) "total" = some (some (.ref f12)))
    (i12 : PySem.W.isFn K (.ref f12) = true)
    (l12 : K.lookup f12 = some ⟨oc12, od12, .func (PySem.W.fnOf "total" "Heights.total" (defArgs s_Heights_total) (defBody s_Heights_total) (defScope s_Heights_total) .none kV12 dc12 pm12 an12 cd12 ct12), sl12⟩)
    (c12 : PySem.W.codeIn K cd12 "Heights.total" = true)
    (k12 : PySem.W.keepIn K (.ref f12) = true)
    (a13 : PySem.W.nsIn K mainGlobals "nearest_top" = some (some (.ref f13)))
    (l13 : K.lookup f13 = some ⟨oc13, od13, .func (PySem.W.fnOf "nearest_top" "nearest_top" (defArgs s_nearest_top) (defBody s_nearest_top) (defScope s_nearest_top) .none kV13 dc13 pm13 an13 cd13 ct13), sl13⟩)
    (c13 : PySem.W.codeIn K cd13 "nearest_top" = true)
    (k13 : PySem.W.keepIn K (.ref f13) = true)
    (a14 : PySem.W.nsIn K mainGlobals "_law_box" = some (some (.ref f14)))
    (l14 : K.lookup f14 = some ⟨oc14, od14, .func (PySem.W.fnOf "_law_box" "_law_box" (defArgs s__law_box) (defBody s__law_box) (defScope s__law_box) .none kV14 dc14 pm14 an14 cd14 ct14), sl14⟩)
    (c14 : PySem.W.codeIn K cd14 "_law_box" = true)
    (k14 : PySem.W.keepIn K (.ref f14) = true)
    (t15 : PySem.W.findIn K (.ref C_Heights) "lies_at" = some (some (.ref f15)))
    (i15 : PySem.W.isFn K (.ref f15) = true)
    (l15 : K.lookup f15 = some ⟨oc15, od15, .func (PySem.W.fnOf "lies_at" "Heights.lies_at" (defArgs s_Heights_lies_at) (defBody s_Heights_lies_at) (defScope s_Heights_lies_at) .none kV15 dc15 pm15 an15 cd15 ct15), sl15⟩)
    (c15 : PySem.W.codeIn K cd15 "Heights.lies_at" = true)
    (k15 : PySem.W.keepIn K (.ref f15) = true)
    (a16 : PySem.W.nsIn K mainGlobals "held_top" = some (some (.ref f16)))
    (l16 : K.lookup f16 = some ⟨oc16, od16, .func (PySem.W.fnOf "held_top" "held_top" (defArgs s_held_top) (defBody s_held_top) (defScope s_held_top) .none kV16 dc16 pm16 an16 cd16 ct16), sl16⟩)
    (c16 : PySem.W.codeIn K cd16 "held_top" = true)
    (k16 : PySem.W.keepIn K (.ref f16) = true)
    (a17 : PySem.W.nsIn K mainGlobals "scrolled" = some (some (.ref f17)))
    (l17 : K.lookup f17 = some ⟨oc17, od17, .func (PySem.W.fnOf "scrolled" "scrolled" (defArgs s_scrolled) (defBody s_scrolled) (defScope s_scrolled) .none kV17 dc17 pm17 an17 cd17 ct17), sl17⟩)
    (c17 : PySem.W.codeIn K cd17 "scrolled" = true)
    (k17 : PySem.W.keepIn K (.ref f17) = true)
    (a18 : PySem.W.nsIn K mainGlobals "anchor" = some (some (.ref f18)))
    (l18 : K.lookup f18 = some ⟨oc18, od18, .func (PySem.W.fnOf "anchor" "anchor" (defArgs s_anchor) (defBody s_anchor) (defScope s_anchor) .none kV18 dc18 pm18 an18 cd18 ct18), sl18⟩)
    (c18 : PySem.W.codeIn K cd18 "anchor" = true)
    (k18 : PySem.W.keepIn K (.ref f18) = true)
    (a19 : PySem.W.nsIn K mainGlobals "_law_same" = some (some (.ref f19)))
    (l19 : K.lookup f19 = some ⟨oc19, od19, .func (PySem.W.fnOf "_law_same" "_law_same" (defArgs s__law_same) (defBody s__law_same) (defScope s__law_same) .none kV19 dc19 pm19 an19 cd19 ct19), sl19⟩)
    (c19 : PySem.W.codeIn K cd19 "_law_same" = true)
    (k19 : PySem.W.keepIn K (.ref f19) = true)
    (a20 : PySem.W.nsIn K mainGlobals "law" = some (some (.ref f20)))
    (l20 : K.lookup f20 = some ⟨oc20, od20, .func (PySem.W.fnOf "law" "law" (defArgs s_law) (defBody s_law) (defScope s_law) .none kV20 dc20 pm20 an20 cd20 ct20), sl20⟩)
    (c20 : PySem.W.codeIn K cd20 "law" = true)
    (k20 : PySem.W.keepIn K (.ref f20) = true)
    (z_abs : PySem.W.nsIn K mainGlobals "abs" = some none)
    (z_bool : PySem.W.nsIn K mainGlobals "bool" = some none)
    (z_enumerate : PySem.W.nsIn K mainGlobals "enumerate" = some none)
    (z_int : PySem.W.nsIn K mainGlobals "int" = some none)
    (z_isinstance : PySem.W.nsIn K mainGlobals "isinstance" = some none)
    (z_len : PySem.W.nsIn K mainGlobals "len" = some none)
    (z_max : PySem.W.nsIn K mainGlobals "max" = some none)
    (z_min : PySem.W.nsIn K mainGlobals "min" = some none)
    (z_range : PySem.W.nsIn K mainGlobals "range" = some none)
    (z_str : PySem.W.nsIn K mainGlobals "str" = some none)
    (z_sum : PySem.W.nsIn K mainGlobals "sum" = some none)
    (z_tuple : PySem.W.nsIn K mainGlobals "tuple" = some none) :
    ∃ (fd : FuncData) (cs : List (Str × Addr × Addr)), cs.map (·.1) = (["come_and_gone"] : List Str) ∧ (∀ p ∈ cs, PySem.W.tabIn K p.1 = some p.2 ∧ K.lookup p.2.2 = none) ∧ (∀ (s : Shared) (v : Value), BindsTo s fd ⟨[v], []⟩ [("script", v)]) ∧ ∀ base : Heap, K.In base → base.Ns mainGlobals mg → (∀ p ∈ cs, GxR.TabB base mg p.2.1 p.2.2) → FnOk l.prog w K mg base CX0 26 fa fd ["script"] (toSp K (sp_lawT (cs.map (·.2.2)))) := by
  have e := hfa.symm.trans (PySem.W.mg_of X G a20)
  cases e
  obtain ⟨tc9, tp9, t9, p9⟩ := tabOk_of u9
  refine ⟨PySem.W.fnOf "law" "law" (defArgs s_law) (defBody s_law) (defScope s_law) .none kV20 dc20 pm20 an20 cd20 ct20, [("come_and_gone", tc9, tp9)], rfl, ?_, fun s v => .of_eq rfl, fun base _ _ hTB => ?_⟩
  · intro p hp
    simp only [List.mem_cons, List.not_mem_nil, or_false] at hp
    rcases hp with rfl
    · exact ⟨t9, p9⟩
  let Ps : List Addr := [tp9]
  let GG : Gc := ⟨l.prog, w, K, mg, base⟩
  have T : Gx GG := ⟨PySem.W.mg_none_of X G z_abs, PySem.W.mg_none_of X G z_bool, PySem.W.mg_none_of X G z_enumerate, PySem.W.mg_none_of X G z_int, PySem.W.mg_none_of X G z_isinstance, PySem.W.mg_none_of X G z_len, PySem.W.mg_none_of X G z_max, PySem.W.mg_none_of X G z_min, PySem.W.mg_none_of X G z_range, PySem.W.mg_none_of X G z_str, PySem.W.mg_none_of X G z_sum, PySem.W.mg_none_of X G z_tuple⟩
  have CL_Heights : Cls GG.K C_Heights := ⟨gA_Heights, dA_Heights, oA_Heights, sA_Heights⟩
  have hC_Heights : Flds_Heights GG.K C_Heights := by
    intro f hf
    simp only [List.mem_cons, List.not_mem_nil, or_false] at hf
    rcases hf with rfl | rfl
    · exact ⟨CL_Heights, nA_Heights_rows⟩
    · exact ⟨CL_Heights, nA_Heights_sums⟩
  have A1 : At GG "_wall" "_wall" s__wall f1 _ := ⟨fun_mk (st := s__wall) l1 c1 k1, PySem.W.mg_of X G a1⟩
  have B1 := A1.fn.binds (ps := ["k"]) fun _ _ _ _ _ _ us hl => match us, hl with | [_], _ => rfl
  have F__wall := ok__wall T A1 B1
  have A2 : At GG "low_part" "low_part" s_low_part f2 _ := ⟨fun_mk (st := s_low_part) l2 c2 k2, PySem.W.mg_of X G a2⟩
  have B2 := A2.fn.binds (ps := ["number"]) fun _ _ _ _ _ _ us hl => match us, hl with | [_], _ => rfl
  have F_low_part := ok_low_part T A2 B2
  have A3 : At GG "with_more" "with_more" s_with_more f3 _ := ⟨fun_mk (st := s_with_more) l3 c3 k3, PySem.W.mg_of X G a3⟩
  have B3 := A3.fn.binds (ps := ["window", "many", "more"]) fun _ _ _ _ _ _ us hl => match us, hl with | [_, _, _], _ => rfl
  have F_with_more := ok_with_more T A3 B3
  have A4 : At GG "_law_cell" "_law_cell" s__law_cell f4 _ := ⟨fun_mk (st := s__law_cell) l4 c4 k4, PySem.W.mg_of X G a4⟩
  have B4 := A4.fn.binds (ps := ["script", "k"]) fun _ _ _ _ _ _ us hl => match us, hl with | [_, _], _ => rfl
  have F__law_cell := ok__law_cell T A4 B4
  have A5 : At GG "_law_draw" "_law_draw" s__law_draw f5 _ := ⟨fun_mk (st := s__law_draw) l5 c5 k5, PySem.W.mg_of X G a5⟩
  have B5 := A5.fn.binds (ps := ["box", "many"]) fun _ _ _ _ _ _ us hl => match us, hl with | [_, _], _ => rfl
  have F__law_draw := ok__law_draw T A5 B5
  have A6 : Fun GG.K "change" "Heights.change" s_Heights_change f6 _ := fun_mk (st := s_Heights_change) l6 c6 k6
  have B6 := A6.binds (ps := ["self", "place", "own"]) fun _ _ _ _ _ _ us hl => match us, hl with | [_, _, _], _ => rfl
  have F_Heights_change := ok_Heights_change T A6 B6 hC_Heights F_low_part ⟨t6, i6, k6⟩ CL_Heights
  have A7 : Fun GG.K "top" "Heights.top" s_Heights_top f7 _ := fun_mk (st := s_Heights_top) l7 c7 k7
  have B7 := A7.binds (ps := ["self", "place"]) fun _ _ _ _ _ _ us hl => match us, hl with | [_, _], _ => rfl
  have F_Heights_top := ok_Heights_top T A7 B7 hC_Heights F_low_part ⟨t7, i7, k7⟩ CL_Heights
  have A8 : Fun GG.K "shown" "Heights.shown" s_Heights_shown f8 _ := fun_mk (st := s_Heights_shown) l8 c8 k8
  have B8 := A8.binds (ps := ["self", "top", "high"]) fun _ _ _ _ _ _ us hl => match us, hl with | [_, _, _], _ => rfl
  have F_Heights_shown := ok_Heights_shown T A8 B8 hC_Heights F__wall ⟨t8, i8, k8⟩ CL_Heights
  have A9 : At GG "come_and_gone" "come_and_gone" s_come_and_gone f9 _ := ⟨fun_mk (st := s_come_and_gone) l9 c9 k9, PySem.W.mg_of X G a9⟩
  have B9 := A9.fn.binds (ps := ["before", "after"]) fun _ _ _ _ _ _ us hl => match us, hl with | [_, _], _ => rfl
  have M9 : tp9 ∈ Ps := by simp [Ps]
  have H9 : ∃ c, GxR.TabB GG.base GG.mg c tp9 ∧ _ = _ := ⟨tc9, hTB ("come_and_gone", tc9, tp9) (by simp), tabIn_code a9 l9 t9⟩
  have F_come_and_gone := ok_come_and_gone T A9 B9 M9 H9
  have A10 : At GG "_law_digits" "_law_digits" s__law_digits f10 _ := ⟨fun_mk (st := s__law_digits) l10 c10 k10, PySem.W.mg_of X G a10⟩
  have B10 := A10.fn.binds (ps := ["script", "first", "last"]) fun _ _ _ _ _ _ us hl => match us, hl with | [_, _, _], _ => rfl
  have F__law_digits := ok__law_digits T A10 B10 F__law_cell
  have A11 : Fun GG.K "__init__" "Heights.__init__" s_Heights___init__ f11 _ := fun_mk (st := s_Heights___init__) l11 c11 k11
  have B11 := A11.binds (ps := ["self", "heights"]) fun _ _ _ _ _ _ us hl => match us, hl with | [_, _], _ => rfl
  have F_Heights___init__ := ok_Heights___init__ T A11 B11 hC_Heights F_Heights_change ⟨mA_Heights, t11, i11, kA_Heights⟩ (PySem.W.mg_of X G aA_Heights)
  have A12 : Fun GG.K "total" "Heights.total" s_Heights_total f12 _ := fun_mk (st := s_Heights_total) l12 c12 k12
  have B12 := A12.binds (ps := ["self"]) fun _ _ _ _ _ _ us hl => match us, hl with | [_], _ => rfl
  have F_Heights_total := ok_Heights_total T A12 B12 hC_Heights F_Heights_top ⟨t12, i12, k12⟩ CL_Heights
  have A13 : At GG "nearest_top" "nearest_top" s_nearest_top f13 _ := ⟨fun_mk (st := s_nearest_top) l13 c13 k13, PySem.W.mg_of X G a13⟩
  have B13 := A13.fn.binds (ps := ["heights", "place", "top", "high"]) fun _ _ _ _ _ _ us hl => match us, hl with | [_, _, _, _], _ => rfl
  have F_nearest_top := ok_nearest_top T A13 B13 hC_Heights F_Heights_top
  have A14 : At GG "_law_box" "_law_box" s__law_box f14 _ := ⟨fun_mk (st := s__law_box) l14 c14 k14, PySem.W.mg_of X G a14⟩
  have B14 := A14.fn.binds (ps := ["script", "first", "last"]) fun _ _ _ _ _ _ us hl => match us, hl with | [_, _, _], _ => rfl
  have F__law_box := ok__law_box T A14 B14 F__law_digits
  have A15 : Fun GG.K "lies_at" "Heights.lies_at" s_Heights_lies_at f15 _ := fun_mk (st := s_Heights_lies_at) l15 c15 k15
  have B15 := A15.binds (ps := ["self", "offset"]) fun _ _ _ _ _ _ us hl => match us, hl with | [_, _], _ => rfl
  have F_Heights_lies_at := ok_Heights_lies_at T A15 B15 hC_Heights F_Heights_total ⟨t15, i15, k15⟩ CL_Heights
  have A16 : At GG "held_top" "held_top" s_held_top f16 _ := ⟨fun_mk (st := s_held_top) l16 c16 k16, PySem.W.mg_of X G a16⟩
  have B16 := A16.fn.binds (ps := ["heights", "place", "within", "high"]) fun _ _ _ _ _ _ us hl => match us, hl with | [_, _, _, _], _ => rfl
  have F_held_top := ok_held_top T A16 B16 hC_Heights F_Heights_top F_Heights_total
  have A17 : At GG "scrolled" "scrolled" s_scrolled f17 _ := ⟨fun_mk (st := s_scrolled) l17 c17 k17, PySem.W.mg_of X G a17⟩
  have B17 := A17.fn.binds (ps := ["heights", "place", "high", "way"]) fun _ _ _ _ _ _ us hl => match us, hl with | [_, _, _, _], _ => rfl
  have F_scrolled := ok_scrolled T A17 B17 hC_Heights F_Heights_top F_Heights_total
  have A18 : At GG "anchor" "anchor" s_anchor f18 _ := ⟨fun_mk (st := s_anchor) l18 c18 k18, PySem.W.mg_of X G a18⟩
  have B18 := A18.fn.binds (ps := ["heights", "top"]) fun _ _ _ _ _ _ us hl => match us, hl with | [_, _], _ => rfl
  have F_anchor := ok_anchor T A18 B18 hC_Heights F_Heights_lies_at F_Heights_top
  have A19 : At GG "_law_same" "_law_same" s__law_same f19 _ := ⟨fun_mk (st := s__law_same) l19 c19 k19, PySem.W.mg_of X G a19⟩
  have B19 := A19.fn.binds (ps := ["actual", "expected"]) fun _ _ _ _ _ _ us hl => match us, hl with | [_, _], _ => rfl
  have F__law_same := ok__law_same T A19 B19
  have A20 : At GG "law" "law" s_law fa _ := ⟨fun_mk (st := s_law) l20 c20 k20, PySem.W.mg_of X G a20⟩
  have B20 := A20.fn.binds (ps := ["script"]) fun _ _ _ _ _ _ us hl => match us, hl with | [_], _ => rfl
  exact fnok_of (sp := sp_lawT Ps) A20.fn sc_law (by walk_at "len") (d_law T F__law_box F__law_draw F_Heights___init__ F__law_same F_anchor F_held_top F_scrolled F_nearest_top F_come_and_gone F_with_more) (fun ds h' Q q H r => ⟨h', r, r_law GG Ps C_Heights hC_Heights ds h' Q q⟩)
end K48
open PySem PySem.W PyProof.Rows
set_option maxRecDepth 100000 in
set_option maxHeartbeats 0 in
theorem PySem.Challenge.cw_pagehouse_k48_tops_that_are_held_holds : PySem.Challenge.rw_pagehouse_k48_tops_that_are_held.Holds := by
  w_on; o_law; k_head; (case hw => w_witness2)
  k_fill
  refine DL.law_walkT (k := 26) (l := PySem.Challenge.rw_pagehouse_k48_tops_that_are_held) (["come_and_gone"] : List Str) rfl rfl ⟨rfl, by decide, by decide⟩ (fun w h Y => PySem.W.kIn_of Y) (by decide +kernel) ?F
  case F =>
    intro w mg fa h KX G hmg
    refine' K48.all_mk KX G hmg ?aA_Heights ?kA_Heights ?mA_Heights ?gA_Heights ?dA_Heights ?oA_Heights ?sA_Heights ?nA_Heights_rows ?nA_Heights_sums ?a1 ?l1 ?c1 ?k1 ?a2 ?l2 ?c2 ?k2 ?a3 ?l3 ?c3 ?k3 ?a4 ?l4 ?c4 ?k4 ?a5 ?l5 ?c5 ?k5 ?t6 ?i6 ?l6 ?c6 ?k6 ?t7 ?i7 ?l7 ?c7 ?k7 ?t8 ?i8 ?l8 ?c8 ?k8 ?a9 ?l9 ?c9 ?k9 ?u9 ?a10 ?l10 ?c10 ?k10 ?t11 ?i11 ?l11 ?c11 ?k11 ?t12 ?i12 ?l12 ?c12 ?k12 ?a13 ?l13 ?c13 ?k13 ?a14 ?l14 ?c14 ?k14 ?t15 ?i15 ?l15 ?c15 ?k15 ?a16 ?l16 ?c16 ?k16 ?a17 ?l17 ?c17 ?k17 ?a18 ?l18 ?c18 ?k18 ?a19 ?l19 ?c19 ?k19 ?a20 ?l20 ?c20 ?k20 ?z_abs ?z_bool ?z_enumerate ?z_int ?z_isinstance ?z_len ?z_max ?z_min ?z_range ?z_str ?z_sum ?z_tuple
    (case aA_Heights => k_is)
    (case kA_Heights => k_is)
    (case mA_Heights => k_is)
    (case gA_Heights => k_is)
    (case dA_Heights => k_is)
    (case oA_Heights => k_is)
    (case sA_Heights => k_is)
    (case nA_Heights_rows => k_is)
    (case nA_Heights_sums => k_is)
    (case a1 => k_is)
    (case l1 => k_is)
    (case c1 => k_is)
    (case k1 => k_is)
    (case a2 => k_is)
    (case l2 => k_is)
    (case c2 => k_is)
    (case k2 => k_is)
    (case a3 => k_is)
    (case l3 => k_is)
    (case c3 => k_is)
    (case k3 => k_is)
    (case a4 => k_is)
    (case l4 => k_is)
    (case c4 => k_is)
    (case k4 => k_is)
    (case a5 => k_is)
    (case l5 => k_is)
    (case c5 => k_is)
    (case k5 => k_is)
    (case t6 => k_is)
    (case i6 => k_is)
    (case l6 => k_is)
    (case c6 => k_is)
    (case k6 => k_is)
    (case t7 => k_is)
    (case i7 => k_is)
    (case l7 => k_is)
    (case c7 => k_is)
    (case k7 => k_is)
    (case t8 => k_is)
    (case i8 => k_is)
    (case l8 => k_is)
    (case c8 => k_is)
    (case k8 => k_is)
    (case a9 => k_is)
    (case l9 => k_is)
    (case c9 => k_is)
    (case k9 => k_is)
    (case u9 => kernel_rfl)
    (case a10 => k_is)
    (case l10 => k_is)
    (case c10 => k_is)
    (case k10 => k_is)
    (case t11 => k_is)
    (case i11 => k_is)
    (case l11 => k_is)
    (case c11 => k_is)
    (case k11 => k_is)
    (case t12 => k_is)
    (case i12 => k_is)
    (case l12 => k_is)
    (case c12 => k_is)
    (case k12 => k_is)
    (case a13 => k_is)
    (case l13 => k_is)
    (case c13 => k_is)
    (case k13 => k_is)
    (case a14 => k_is)
    (case l14 => k_is)
    (case c14 => k_is)
    (case k14 => k_is)
    (case t15 => k_is)
    (case i15 => k_is)
    (case l15 => k_is)
    (case c15 => k_is)
    (case k15 => k_is)
    (case a16 => k_is)
    (case l16 => k_is)
    (case c16 => k_is)
    (case k16 => k_is)
    (case a17 => k_is)
    (case l17 => k_is)
    (case c17 => k_is)
    (case k17 => k_is)
    (case a18 => k_is)
    (case l18 => k_is)
    (case c18 => k_is)
    (case k18 => k_is)
    (case a19 => k_is)
    (case l19 => k_is)
    (case c19 => k_is)
    (case k19 => k_is)
    (case a20 => k_is)
    (case l20 => k_is)
    (case c20 => k_is)
    (case k20 => k_is)
    (case z_abs => k_is)
    (case z_bool => k_is)
    (case z_enumerate => k_is)
    (case z_int => k_is)
    (case z_isinstance => k_is)
    (case z_len => k_is)
    (case z_max => k_is)
    (case z_min => k_is)
    (case z_range => k_is)
    (case z_str => k_is)
    (case z_sum => k_is)
    (case z_tuple => k_is)
