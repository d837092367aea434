import PyProof.Rows.All
import Wide.All
import OpenK.AllK
import Wide.FinOn
import HandS.ForMost
import HandS.Flow
import HandS.IsInst
import HandS.Wide
import HandS.RevRange
import HandS.Deep
import HandS.Style
import HandS.Conv
import KE.SortData
import KE.DataEq
import KE.DataIsa
import KE.DataAny
import KE.DataMinMax
import KE.DataFind
import PySem.Challenge.RW_screenspoken_k56_judge_of_dated_notes
set_option Elab.async false
set_option linter.all false
set_option maxRecDepth 100000
/-! Mini1: value semantics over HandS: data are PyData, no heap in sight. -/
namespace M
open PySem PySem.Spec L2
abbrev D := PyData
/-- who owns what: s shared (never changed again), l e: an own list whose items are e, t es: a tuple whose items are es -/
inductive Sh where
  | s | l (e : Sh) | t (es : List Sh)

mutual
def Sh.beq : Sh → Sh → Bool
  | .s, .s => true
  | .l a, .l b => Sh.beq a b
  | .t a, .t b => Sh.beqs a b
  | _, _ => false
def Sh.beqs : List Sh → List Sh → Bool
  | [], [] => true
  | a :: as, b :: bs => Sh.beq a b && Sh.beqs as bs
  | _, _ => false
end
mutual
theorem Sh.beq_eq : ∀ {a b : Sh}, Sh.beq a b = true → a = b
  | .s, .s, _ => rfl
  | .l a, .l b, h => by rw [Sh.beq] at h; rw [Sh.beq_eq h]
  | .t a, .t b, h => by rw [Sh.beq] at h; rw [Sh.beqs_eq h]
  | .s, .l _, h => by simp [Sh.beq] at h
  | .s, .t _, h => by simp [Sh.beq] at h
  | .l _, .s, h => by simp [Sh.beq] at h
  | .l _, .t _, h => by simp [Sh.beq] at h
  | .t _, .s, h => by simp [Sh.beq] at h
  | .t _, .l _, h => by simp [Sh.beq] at h
theorem Sh.beqs_eq : ∀ {a b : List Sh}, Sh.beqs a b = true → a = b
  | [], [], _ => rfl
  | a :: as, b :: bs, h => by
    rw [Sh.beqs, Bool.and_eq_true] at h
    rw [Sh.beq_eq h.1, Sh.beqs_eq h.2]
  | [], _ :: _, h => by simp [Sh.beqs] at h
  | _ :: _, [], h => by simp [Sh.beqs] at h
end

abbrev Le (H H' : Hp) : Prop := ∀ a o, H a = some o → H' a = some o
theorem Le.rfl {H : Hp} : Le H H := fun _ _ h => h
theorem Le.trans {H H1 H2 : Hp} (a : Le H H1) (b : Le H1 H2) : Le H H2 := fun c o h => b c o (a c o h)

section
variable {K : PySem.W.Frag} {G G' H H' : Hp}
theorem rd_mono {a : Addr} {u : HO} (k : Le G G') (r : Rd G a u) : Rd G' a u := by
  rcases r with r | ⟨o, r⟩
  · exact .inl (k _ _ r)
  · exact .inr ⟨o, k _ _ r⟩
theorem sql_mono {a : Addr} {xs : List V} (k : Le G G') (h : SqL K G a xs) : SqL K G' a xs := h.imp (rd_mono k) id
theorem sqt_mono {a : Addr} {xs : List V} (k : Le G G') (h : SqT K G a xs) : SqT K G' a xs := h.imp (rd_mono k) id
/-- a tuple of the module's own top -/
def KTup (K : PySem.W.Frag) (a : Addr) (xs : List V) : Prop := ∃ (o : Obj) (its : Array Value) (n : Nat), K.lookup a = some o ∧ o.cls = .type "tuple" ∧ o.data = .seq its n ∧ its.size ≤ sizeLine ∧ Vals xs its.toList
def Tp (K : PySem.W.Frag) (H : Hp) (a : Addr) (xs : List V) : Prop := H a = some (.tup xs) ∨ KTup K a xs
theorem Tp.sq {H : Hp} {a : Addr} {xs : List V} (h : Tp K H a xs) : SqT K H a xs := by
  rcases h with h | h
  · exact SqT.of h
  · exact .inr h
theorem Tp.mono {a : Addr} {xs : List V} (k : Le G G') (h : Tp K G a xs) : Tp K G' a xs := h.imp (k _ _) id
mutual
/-- v is the data d: by lists that are tracked, by tuples that are tracked or written -/
inductive Rp (K : PySem.W.Frag) (H : Hp) : V → PyData → Prop
  | non : Rp K H .non .none
  | bl (b : Bool) : Rp K H (.bl b) (.bool b)
  | int (i : Int) : Rp K H (.int i) (.int i)
  | str (x : Str) : Rp K H (.str x) (.str x)
  | lst {a : Addr} {xs : List V} {ds : List PyData} : SqL K H a xs → RpAll K H xs ds → Rp K H (.ref a) (.list ds)
  | tup {a : Addr} {xs : List V} {ds : List PyData} : Tp K H a xs → RpAll K H xs ds → Rp K H (.ref a) (.tuple ds)
inductive RpAll (K : PySem.W.Frag) (H : Hp) : List V → List PyData → Prop
  | nil : RpAll K H [] []
  | cons {v : V} {vs : List V} {d : PyData} {ds : List PyData} : Rp K H v d → RpAll K H vs ds → RpAll K H (v :: vs) (d :: ds)
end
mutual
theorem Rp.dp : ∀ {v : V} {d : D}, Rp K G v d → Dp K G v d
  | _, _, .non => .non
  | _, _, .bl b => .bl b
  | _, _, .int i => .int i
  | _, _, .str x => .str x
  | _, _, .lst h ha => .lst h (RpAll.dp ha)
  | _, _, .tup h ha => .tup h.sq (RpAll.dp ha)
theorem RpAll.dp : ∀ {vs : List V} {ds : List D}, RpAll K G vs ds → DpAll K G vs ds
  | _, _, .nil => .nil
  | _, _, .cons h ha => .cons (Rp.dp h) (RpAll.dp ha)
end
theorem Rp.reads {X : Cx} {pins : List (Addr × Obj)} {σ : L2.St} {H : Hp} {s : Shared} (I : L2.Inv X pins σ H s) (d : PyData) (v : V) (u : Value) (h : Rp X.K H v d) (r : RelV v u) : ∃ as, Reads s.heap u d as := Dp.reads I d v u h.dp r
theorem Rp.readsAll {X : Cx} {pins : List (Addr × Obj)} {σ : L2.St} {H : Hp} {s : Shared} (I : L2.Inv X pins σ H s) (d : List PyData) (v : List V) (u : List Value) (h : RpAll X.K H v d) (r : Vals v u) : ∃ as, ReadsAll s.heap u d as := Dp.readsAll I d v u h.dp r
mutual
theorem dp_mono (k : Le G G') : ∀ {v : V} {d : D}, Rp K G v d → Rp K G' v d
  | _, _, .non => .non
  | _, _, .bl b => .bl b
  | _, _, .int i => .int i
  | _, _, .str x => .str x
  | _, _, .lst h ha => .lst (sql_mono k h) (dpAll_mono k ha)
  | _, _, .tup h ha => .tup (h.mono k) (dpAll_mono k ha)
theorem dpAll_mono (k : Le G G') : ∀ {vs : List V} {ds : List D}, RpAll K G vs ds → RpAll K G' vs ds
  | _, _, .nil => .nil
  | _, _, .cons h ha => .cons (dp_mono k h) (dpAll_mono k ha)
end
theorem dpAll_len : ∀ {vs : List V} {ds : List D}, RpAll K G vs ds → vs.length = ds.length
  | _, _, .nil => rfl
  | _, _, .cons _ h => by rw [List.length_cons, List.length_cons, dpAll_len h]
theorem dpAll_get : ∀ {vs : List V} {ds : List D} {i : Nat} {d : D}, RpAll K G vs ds → ds[i]? = some d → ∃ v, vs[i]? = some v ∧ Rp K G v d
  | _, _, _, _, .nil, e => by simp at e
  | _, _, 0, _, .cons h _, e => by simp at e; subst e; exact ⟨_, rfl, h⟩
  | _, _, i + 1, _, .cons _ t, e => by
    obtain ⟨v, h1, h2⟩ := dpAll_get (i := i) t (by simpa using e)
    exact ⟨v, by simpa using h1, h2⟩
theorem dpAll_append : ∀ {vs : List V} {ds : List D} {us : List V} {es : List D}, RpAll K G vs ds → RpAll K G us es → RpAll K G (vs ++ us) (ds ++ es)
  | _, _, _, _, .nil, s => s
  | _, _, _, _, .cons h t, s => .cons h (dpAll_append t s)
theorem dpAll_take : ∀ {vs : List V} {ds : List D} (n : Nat), RpAll K G vs ds → RpAll K G (vs.take n) (ds.take n)
  | _, _, 0, _ => .nil
  | _, _, _ + 1, .nil => .nil
  | _, _, n + 1, .cons r t => .cons r (dpAll_take n t)
theorem dpAll_drop : ∀ {vs : List V} {ds : List D} (n : Nat), RpAll K G vs ds → RpAll K G (vs.drop n) (ds.drop n)
  | _, _, 0, r => r
  | _, _, _ + 1, .nil => .nil
  | _, _, n + 1, .cons _ t => dpAll_drop n t
theorem dpAll_reverse {vs : List V} {ds : List D} (h : RpAll K G vs ds) : RpAll K G vs.reverse ds.reverse := by
  induction vs generalizing ds with
  | nil => cases h; exact .nil
  | cons v vs ih =>
    cases h with
    | cons h t =>
      rw [List.reverse_cons, List.reverse_cons]
      exact dpAll_append (ih t) (.cons h .nil)

mutual
inductive Own (K : PySem.W.Frag) (G H : Hp) : Sh → V → D → List Addr → Prop
  | s {v : V} {d : D} : Rp K G v d → Own K G H .s v d []
  | l {e : Sh} {p : Addr} {vs : List V} {ds : List D} {fp : List Addr} : H p = some (.lst vs) → Owns K G H (List.replicate vs.length e) vs ds fp → Own K G H (.l e) (.ref p) (.list ds) (p :: fp)
  | t {es : List Sh} {a : Addr} {vs : List V} {ds : List D} {fp : List Addr} : H a = some (.tup vs) → Owns K G H es vs ds fp → Own K G H (.t es) (.ref a) (.tuple ds) fp
inductive Owns (K : PySem.W.Frag) (G H : Hp) : List Sh → List V → List D → List Addr → Prop
  | nil : Owns K G H [] [] [] []
  | cons {e : Sh} {es : List Sh} {v : V} {vs : List V} {d : D} {ds : List D} {f fs : List Addr} : Own K G H e v d f → Owns K G H es vs ds fs → Owns K G H (e :: es) (v :: vs) (d :: ds) (f ++ fs)
end
/-- what tuples there are, there stay -/
def Tk (H H' : Hp) : Prop := ∀ a xs, H a = some (.tup xs) → H' a = some (.tup xs)
theorem Le.tk (k : Le H H') : Tk H H' := fun a xs h => k a _ h
mutual
theorem Own.mono (k : Le G G') (t : Tk H H') : ∀ {sh : Sh} {v : V} {d : D} {fp : List Addr}, (∀ p ∈ fp, H' p = H p) → Own K G H sh v d fp → Own K G' H' sh v d fp
  | _, _, _, _, _, .s h => .s (dp_mono k h)
  | _, _, _, _, hp, .l e h => .l ((hp _ List.mem_cons_self).trans e) (Owns.mono k t (fun p z => hp p (List.mem_cons_of_mem _ z)) h)
  | _, _, _, _, hp, .t e h => .t (t _ _ e) (Owns.mono k t hp h)
theorem Owns.mono (k : Le G G') (t : Tk H H') : ∀ {es : List Sh} {vs : List V} {ds : List D} {fp : List Addr}, (∀ p ∈ fp, H' p = H p) → Owns K G H es vs ds fp → Owns K G' H' es vs ds fp
  | _, _, _, _, _, .nil => .nil
  | _, _, _, _, hp, .cons h ha => .cons (Own.mono k t (fun p z => hp p (List.mem_append_left _ z)) h) (Owns.mono k t (fun p z => hp p (List.mem_append_right _ z)) ha)
end
mutual
/-- in any heap that has what is shared and what is owned, all is data -/
theorem Own.dp (k : Le G G') (t : Tk H G') : ∀ {sh : Sh} {v : V} {d : D} {fp : List Addr}, (∀ p ∈ fp, G' p = H p) → Own K G H sh v d fp → Rp K G' v d
  | _, _, _, _, _, .s h => dp_mono k h
  | _, _, _, _, hp, .l e h => .lst (SqL.of ((hp _ List.mem_cons_self).trans e)) (Owns.dp k t (fun p z => hp p (List.mem_cons_of_mem _ z)) h)
  | _, _, _, _, hp, .t e h => .tup (.inl (t _ _ e)) (Owns.dp k t hp h)
theorem Owns.dp (k : Le G G') (t : Tk H G') : ∀ {es : List Sh} {vs : List V} {ds : List D} {fp : List Addr}, (∀ p ∈ fp, G' p = H p) → Owns K G H es vs ds fp → RpAll K G' vs ds
  | _, _, _, _, _, .nil => .nil
  | _, _, _, _, hp, .cons h ha => .cons (Own.dp k t (fun p z => hp p (List.mem_append_left _ z)) h) (Owns.dp k t (fun p z => hp p (List.mem_append_right _ z)) ha)
end
mutual
theorem Own.inH : ∀ {sh : Sh} {v : V} {d : D} {fp : List Addr}, Own K G H sh v d fp → ∀ p ∈ fp, ∃ xs, H p = some (.lst xs)
  | _, _, _, _, .s _, p, z => by cases z
  | _, _, _, _, .l e h, p, z => by
    rcases List.mem_cons.mp z with rfl | z
    · exact ⟨_, e⟩
    · exact Owns.inH h p z
  | _, _, _, _, .t _ h, p, z => Owns.inH h p z
theorem Owns.inH : ∀ {es : List Sh} {vs : List V} {ds : List D} {fp : List Addr}, Owns K G H es vs ds fp → ∀ p ∈ fp, ∃ xs, H p = some (.lst xs)
  | _, _, _, _, .nil, p, z => by cases z
  | _, _, _, _, .cons h ha, p, z => by
    rcases List.mem_append.mp z with z | z
    · exact Own.inH h p z
    · exact Owns.inH ha p z
end
theorem Owns.len : ∀ {es : List Sh} {vs : List V} {ds : List D} {fp : List Addr}, Owns K G H es vs ds fp → es.length = vs.length ∧ ds.length = vs.length
  | _, _, _, _, .nil => ⟨rfl, rfl⟩
  | _, _, _, _, .cons _ h => by
    obtain ⟨a, b⟩ := Owns.len h
    exact ⟨by rw [List.length_cons, List.length_cons, a], by rw [List.length_cons, List.length_cons, b]⟩
theorem Own.sinv {v : V} {d : D} {fp : List Addr} (h : Own K G H .s v d fp) : Rp K G v d ∧ fp = [] := by
  cases h with
  | s h => exact ⟨h, rfl⟩
theorem Owns.sall : ∀ {n : Nat} {vs : List V} {ds : List D} {fp : List Addr}, Owns K G H (List.replicate n .s) vs ds fp → RpAll K G vs ds ∧ fp = []
  | 0, _, _, _, h => by cases h; exact ⟨.nil, rfl⟩
  | n + 1, _, _, _, h => by
    rw [List.replicate_succ] at h
    cases h with
    | cons h t =>
      obtain ⟨a, rfl⟩ := h.sinv
      obtain ⟨b, rfl⟩ := Owns.sall t
      exact ⟨.cons a b, rfl⟩
theorem Owns.ofS : ∀ {vs : List V} {ds : List D}, RpAll K G vs ds → Owns K G H (List.replicate vs.length .s) vs ds []
  | _, _, .nil => .nil
  | _, _, .cons h t => by
    rw [List.length_cons, List.replicate_succ]
    exact .cons (f := []) (fs := []) (.s h) (Owns.ofS t)
end

mutual
/-- the footprint is told by the heap -/
theorem own_fp {K : PySem.W.Frag} {G1 H1 G2 H2 : Hp} (k : Le H1 H2) : ∀ {sh : Sh} {v : V} {d : D} {f g : List Addr}, Own K G1 H1 sh v d f → Own K G2 H2 sh v d g → f = g
  | _, _, _, _, _, .s _, h => by cases h with | s _ => rfl
  | _, _, _, _, _, .l e a, h => by
    cases h with
    | l e' b =>
      rw [k _ _ e] at e'
      cases e'
      rw [owns_fp k a b]
  | _, _, _, _, _, .t e a, h => by
    cases h with
    | t e' b =>
      rw [k _ _ e] at e'
      cases e'
      exact owns_fp k a b
theorem owns_fp {K : PySem.W.Frag} {G1 H1 G2 H2 : Hp} (k : Le H1 H2) : ∀ {es : List Sh} {vs : List V} {ds : List D} {f g : List Addr}, Owns K G1 H1 es vs ds f → Owns K G2 H2 es vs ds g → f = g
  | _, _, _, _, _, .nil, h => by cases h; rfl
  | _, _, _, _, _, .cons a r, h => by
    cases h with
    | cons b q => rw [own_fp k a b, owns_fp k r q]
end
/-! ### the state of a body -/
abbrev Env := List (Option (Sh × D))
abbrev Fp := Nat → List Addr
/-- tuples may join what is shared at any time -/
def isT (o : HO) : Prop := ∃ xs, o = .tup xs
structure Good (K : PySem.W.Frag) (He G0 G H : Hp) (σ : St) (env : Env) (F : Fp) : Prop where
  len : env.length = σ.length
  slot : ∀ i sh d, env[i]? = some (some (sh, d)) → ∃ v, σ[i]? = some (some v) ∧ Own K G H sh v d (F i)
  emp : ∀ i, (∀ x, env[i]? ≠ some (some x)) → F i = []
  nd : ∀ i, (F i).Nodup
  dj : ∀ i j p, i ≠ j → p ∈ F i → p ∉ F j
  out : ∀ i p, p ∈ F i → He p = none ∧ G p = none
  he : Le He H
  gh : Le G H
  g0g : Le G0 G
  g0 : ∀ a o, G a = some o → He a = none ∨ G0 a = some o ∨ isT o
/-- an expression has been evaluated: nothing that stood has changed -/
structure Ext (G H G' H' : Hp) : Prop where
  g : Le G G'
  h : Le H H'
  gh : Le G' H'
  gn : ∀ a o, G' a = some o → G a = some o ∨ H a = none ∨ isT o
theorem Ext.refl {G H : Hp} (k : Le G H) : Ext G H G H := ⟨Le.rfl, Le.rfl, k, fun _ _ e => .inl e⟩
theorem Ext.trans {G H G1 H1 G2 H2 : Hp} (a : Ext G H G1 H1) (b : Ext G1 H1 G2 H2) : Ext G H G2 H2 where
  g := a.g.trans b.g
  h := a.h.trans b.h
  gh := b.gh
  gn := fun c o e => by
    rcases b.gn c o e with e | e | e
    · exact a.gn c o e
    · refine .inr (.inl ?_)
      cases q : H c with
      | none => rfl
      | some u => rw [a.h c u q] at e; cases e
    · exact .inr (.inr e)
section
variable {K : PySem.W.Frag} {He G0 G H G' H' : Hp} {σ : St} {env : Env} {F : Fp}
theorem Good.ownH (g : Good K He G0 G H σ env F) {i : Nat} {p : Addr} (hp : p ∈ F i) : ∃ xs, H p = some (.lst xs) := by
  cases e : env[i]? with
  | none => rw [g.emp i (by rw [e]; simp)] at hp; cases hp
  | some x =>
    cases x with
    | none => rw [g.emp i (by rw [e]; simp)] at hp; cases hp
    | some x =>
      obtain ⟨sh, d⟩ := x
      obtain ⟨v, _, o⟩ := g.slot i sh d e
      exact o.inH p hp
theorem Ext.nog (x : Ext G H G' H') {p : Addr} {xs : List V} (hg : G p = none) (hh : H p = some (.lst xs)) : G' p = none := by
  cases q : G' p with
  | none => rfl
  | some o =>
    rcases x.gn p o q with e | e | ⟨ys, rfl⟩
    · rw [hg] at e; cases e
    · rw [hh] at e; cases e
    · have := x.gh p _ q
      rw [x.h p _ hh] at this; cases this
theorem Good.ext (g : Good K He G0 G H σ env F) (x : Ext G H G' H') : Good K He G0 G' H' σ env F where
  len := g.len
  slot := fun i sh d e => by
    obtain ⟨v, hv, o⟩ := g.slot i sh d e
    refine ⟨v, hv, o.mono x.g x.h.tk fun p hp => ?_⟩
    obtain ⟨xs, hx⟩ := o.inH p hp
    rw [hx, x.h p _ hx]
  emp := g.emp
  nd := g.nd
  dj := g.dj
  out := fun i p hp => by
    obtain ⟨xs, hx⟩ := g.ownH hp
    exact ⟨(g.out i p hp).1, x.nog (g.out i p hp).2 hx⟩
  he := g.he.trans x.h
  gh := x.gh
  g0g := g.g0g.trans x.g
  g0 := fun a o e => by
    rcases x.gn a o e with e | e | e
    · exact g.g0 a o e
    · refine .inl ?_
      cases q : He a with
      | none => rfl
      | some u => rw [g.he a u q] at e; cases e
    · exact .inr (.inr e)
end

/-- what an expression gives: its shape, its data, the slots from which owned parts come -/
structure R where
  sh : Sh
  d : D
  src : List Nat
abbrev R.sha (d : D) : R := ⟨.s, d, []⟩
structure Res (K : PySem.W.Frag) (H G' H' : Hp) (F : Fp) (r : R) (v : V) : Prop where
  own : ∃ fp, Own K G' H' r.sh v r.d fp ∧ fp.Nodup ∧ ∀ p ∈ fp, (H p = none ∧ G' p = none) ∨ ∃ i ∈ r.src, p ∈ F i
abbrev Fm := Env → Option R
def EvOk (K : PySem.W.Frag) (m : Fm) (t : TE) : Prop :=
  ∀ (He G0 G H : Hp) (σ : St) (env : Env) (F : Fp) (r : R) (Q : VK), Good K He G0 G H σ env F → m env = some r →
    (∀ v G' H', Ext G H G' H' → Res K H G' H' F r v → Q v H') → t σ H Q
/-- the expression e has the value semantics m -/
structure ME (X : Cx) (e : Expr) (m : Fm) : Prop where
  ex : ∃ t, PE X e t ∧ EvOk X.K m t
section
variable {K : PySem.W.Frag} {He G0 G H G' H' G1 H1 G2 H2 : Hp} {σ : St} {env : Env} {F : Fp} {r : R} {v : V}
theorem Res.sdp (h : Res K H G' H' F r v) (hs : r.sh = .s) : Rp K G' v r.d := by
  obtain ⟨fp, o, _⟩ := h.own
  rw [hs] at o
  exact o.sinv.1
theorem Res.dp (h : Res K H G' H' F r v) (k : Le G' H') : Rp K H' v r.d := by
  obtain ⟨fp, o, _⟩ := h.own
  exact o.dp k (fun _ _ e => e) fun _ _ => rfl
theorem Res.ofDp {d : D} (h : Rp K G' v d) : Res K H G' H' F (.sha d) v := ⟨[], .s h, List.nodup_nil, fun p z => by cases z⟩
/-- a result stays over the next expression -/
theorem Res.next (g : Good K He G0 G H σ env F) (x1 : Ext G H G1 H1) (h : Res K H G1 H1 F r v) (x2 : Ext G1 H1 G2 H2) : Res K H G2 H2 F r v := by
  obtain ⟨fp, o, n, hp⟩ := h.own
  refine ⟨fp, o.mono x2.g x2.h.tk fun p z => ?_, n, fun p z => ?_⟩
  · obtain ⟨xs, hx⟩ := o.inH p z
    rw [hx, x2.h p _ hx]
  · obtain ⟨xs, hx⟩ := o.inH p z
    rcases hp p z with ⟨a, b⟩ | a
    · exact .inl ⟨a, x2.nog b hx⟩
    · exact .inr a
/-- seen from before -/
theorem Res.back (k : Le H H1) (h : Res K H1 G2 H2 F r v) : Res K H G2 H2 F r v := by
  obtain ⟨fp, o, n, hp⟩ := h.own
  refine ⟨fp, o, n, fun p z => ?_⟩
  rcases hp p z with ⟨a, b⟩ | a
  · refine .inl ⟨?_, b⟩
    cases q : H p with
    | none => rfl
    | some u => rw [k p u q] at a; cases a
  · exact .inr a
end
end M

set_option Elab.async false
set_option linter.all false
set_option maxRecDepth 100000
/-! Mini2: expressions. -/
namespace M
open PySem PySem.Spec L2

/-! ### data helpers -/
/-- a value that stands for itself in every heap -/
def Atom (d : D) (v : V) : Prop := ∀ (K : PySem.W.Frag) (G : Hp), Rp K G v d
theorem Atom.int (i : Int) : Atom (.int i) (.int i) := fun _ _ => .int i
theorem Atom.bl (b : Bool) : Atom (.bool b) (.bl b) := fun _ _ => .bl b
theorem Atom.str (x : Str) : Atom (.str x) (.str x) := fun _ _ => .str x
theorem Atom.non : Atom .none .non := fun _ _ => .non

section
variable {K : PySem.W.Frag} {He G0 G H G' H' G1 H1 G2 H2 H0 : Hp} {σ : L2.St} {env : Env} {F : Fp} {r : R} {v : V}
theorem Res.ofAtom {d : D} (h : Atom d v) : Res K H0 G' H' F (.sha d) v := .ofDp (h K G')

/-- an argument list's results -/
structure ResA (K : PySem.W.Frag) (H G' H' : Hp) (F : Fp) (rs : List R) (vs : List V) : Prop where
  own : ∃ fp, Owns K G' H' (rs.map R.sh) vs (rs.map R.d) fp ∧ (∀ p ∈ fp, (H p = none ∧ G' p = none) ∨ ∃ i ∈ rs.flatMap R.src, p ∈ F i) ∧ ((rs.flatMap R.src).Nodup → fp.Nodup)
abbrev Fms := Env → Option (List R)
def AvOk (K : PySem.W.Frag) (m : Fms) (t : TA) : Prop :=
  ∀ (He G0 G H : Hp) (σ : L2.St) (env : Env) (F : Fp) (rs : List R) (Q : List V → Hp → Prop), Good K He G0 G H σ env F → m env = some rs →
    (∀ vs G' H', Ext G H G' H' → ResA K H G' H' F rs vs → Q vs H') → t σ H Q
structure MA (X : Cx) (es : List Expr) (m : Fms) : Prop where
  ex : ∃ t, PA X es t ∧ AvOk X.K m t
def mNil : Fms := fun _ => some []
def mCons (a : Fm) (r : Fms) : Fms := fun env => (a env).bind fun x => (r env).bind fun xs => some (x :: xs)
theorem ResA.nil : ResA K H G' H' F [] [] := ⟨[], .nil, (fun p z => nomatch z), fun _ => List.nodup_nil⟩
theorem ResA.cons (g : Good K He G0 G H σ env F) (x1 : Ext G H G1 H1) (h : Res K H G1 H1 F r v) (x2 : Ext G1 H1 G2 H2) {rs : List R} {vs : List V} (hs : ResA K H1 G2 H2 F rs vs) :
    ResA K H G2 H2 F (r :: rs) (v :: vs) := by
  obtain ⟨f, o, n, hp⟩ := (h.next g x1 x2).own
  obtain ⟨fs, os, hps, ns⟩ := hs.own
  obtain ⟨f0, o0, _, _⟩ := h.own
  refine ⟨f ++ fs, .cons o os, fun p z => ?_, fun nd => ?_⟩
  · rcases List.mem_append.mp z with z | z
    · rcases hp p z with a | ⟨i, hi, a⟩
      · exact .inl a
      · exact .inr ⟨i, by simp [hi], a⟩
    · rcases hps p z with ⟨a, b⟩ | ⟨i, hi, a⟩
      · refine .inl ⟨?_, b⟩
        cases q : H p with
        | none => rfl
        | some u => rw [x1.h p u q] at a; cases a
      · refine .inr ⟨i, ?_, a⟩
        rw [List.flatMap_cons]
        exact List.mem_append_right _ hi
  · rw [List.flatMap_cons] at nd
    rw [List.nodup_append] at nd
    obtain ⟨n1, n2, n3⟩ := nd
    rw [List.nodup_append]
    refine ⟨n, ns n2, ?_⟩
    rintro p z q w rfl
    -- p in both
    obtain ⟨f', o', n', hp'⟩ := h.own
    have hin2 := os.inH p w
    rcases hp p z with ⟨a, _⟩ | ⟨i, hi, a⟩
    · -- fresh at H; it is owned by v, so it stands in H1
      rcases hps p w with ⟨b, _⟩ | ⟨j, hj, b⟩
      · have e := own_fp x2.h o0 o
        subst e
        obtain ⟨xs, hx⟩ := o0.inH p z
        rw [hx] at b; cases b
      · obtain ⟨xs, hx⟩ := g.ownH b
        rw [hx] at a; cases a
    · rcases hps p w with ⟨b, _⟩ | ⟨j, hj, b⟩
      · obtain ⟨xs, hx⟩ := g.ownH a
        rw [x1.h p _ hx] at b; cases b
      · by_cases e : i = j
        · subst e
          exact n3 i hi i hj rfl
        · exact g.dj i j p e a b

/-! ### to share what is fresh -/
def addL (G H : Hp) (fp : List Addr) : Hp := fun a => if a ∈ fp then H a else match G a with
  | some o => some o
  | none => match H a with
    | some (.tup xs) => some (.tup xs)
    | _ => none
theorem addL_in {fp : List Addr} {p : Addr} (h : p ∈ fp) : addL G H fp p = H p := by unfold addL; rw [if_pos h]
theorem addL_ge {fp : List Addr} (k : Le G H) : Le G (addL G H fp) := fun a o e => by
  unfold addL
  split
  · exact k a o e
  · rw [e]
theorem addL_le {fp : List Addr} (k : Le G H) : Le (addL G H fp) H := fun a o e => by
  unfold addL at e
  split at e
  · exact e
  · cases q : G a with
    | some u => rw [q] at e; cases e; exact k a _ q
    | none =>
      rw [q] at e
      dsimp only at e
      split at e
      · rename_i xs h
        rw [h]; exact e
      · cases e
theorem addL_tk {fp : List Addr} (k : Le G H) : Tk H (addL G H fp) := fun a xs e => by
  unfold addL
  split
  · exact e
  · cases q : G a with
    | some u =>
      have := k a _ q
      rw [e] at this; cases this; rfl
    | none => dsimp only; rw [e]
theorem addL_out {fp : List Addr} {a : Addr} {o : HO} (e : addL G H fp a = some o) : a ∈ fp ∨ G a = some o ∨ isT o := by
  unfold addL at e
  split at e
  · rename_i h; exact .inl h
  · cases q : G a with
    | some u => rw [q] at e; cases e; exact .inr (.inl rfl)
    | none =>
      rw [q] at e
      dsimp only at e
      split at e
      · cases e; exact .inr (.inr ⟨_, rfl⟩)
      · cases e
theorem Ext.addL {fp : List Addr} (x : Ext G H G1 H1) (hp : ∀ p ∈ fp, H p = none) : Ext G H (addL G1 H1 fp) H1 where
  g := x.g.trans (addL_ge x.gh)
  h := x.h
  gh := addL_le x.gh
  gn := fun a o e => by
    rcases addL_out e with e | e | e
    · exact .inr (.inl (hp a e))
    · exact x.gn a o e
    · exact .inr (.inr e)
theorem Res.freeze (x : Ext G H G1 H1) (h : Res K H G1 H1 F r v) (hs : r.src = []) : ∃ G2, Ext G H G2 H1 ∧ Le G1 G2 ∧ Rp K G2 v r.d := by
  obtain ⟨fp, o, n, hp⟩ := h.own
  rw [hs] at hp
  have hf : ∀ p ∈ fp, H p = none := fun p z => by
    rcases hp p z with a | ⟨i, hi, _⟩
    · exact a.1
    · cases hi
  exact ⟨addL G1 H1 fp, x.addL hf, addL_ge x.gh, o.dp (addL_ge x.gh) (addL_tk x.gh) fun p z => addL_in z⟩
theorem ResA.freeze {rs : List R} {vs : List V} (x : Ext G H G1 H1) (h : ResA K H G1 H1 F rs vs) (hs : rs.flatMap R.src = []) : ∃ G2, Ext G H G2 H1 ∧ Le G1 G2 ∧ RpAll K G2 vs (rs.map R.d) := by
  obtain ⟨fp, o, hp, n⟩ := h.own
  rw [hs] at hp
  have hf : ∀ p ∈ fp, H p = none := fun p z => by
    rcases hp p z with a | ⟨i, hi, _⟩
    · exact a.1
    · cases hi
  exact ⟨addL G1 H1 fp, x.addL hf, addL_ge x.gh, o.dp (addL_ge x.gh) (addL_tk x.gh) fun p z => addL_in z⟩
theorem ResA.len {rs : List R} {vs : List V} (h : ResA K H G1 H1 F rs vs) : vs.length = rs.length := by
  obtain ⟨fp, o, _⟩ := h.own
  have := o.len.1
  rw [List.length_map] at this
  exact this.symm
theorem ResA.dp {rs : List R} {vs : List V} (h : ResA K H G1 H1 F rs vs) (k : Le G1 H1) : RpAll K H1 vs (rs.map R.d) := by
  obtain ⟨fp, o, _⟩ := h.own
  exact o.dp k (fun _ _ e => e) fun _ _ => rfl

/-- a new object is laid -/
theorem le_upd {p : Addr} {o : HO} (hp : H p = none) : Le H (upd H p o) := fun a u e => by rw [upd_ne (ne_of_none e hp)]; exact e
theorem Ext.new {p : Addr} {o : HO} (x : Ext G H G1 H1) (hp : H1 p = none) : Ext G H G1 (upd H1 p o) :=
  ⟨x.g, x.h.trans (le_upd hp), x.gh.trans (le_upd hp), x.gn⟩
theorem Ext.none (x : Ext G H G1 H1) {p : Addr} (hp : H1 p = none) : H p = none ∧ G1 p = none := by
  refine ⟨?_, ?_⟩
  · cases q : H p with
    | none => rfl
    | some u => rw [x.h p u q] at hp; cases hp
  · cases q : G1 p with
    | none => rfl
    | some u => rw [x.gh p u q] at hp; cases hp
/-- a new list of shared items -/
theorem Res.newL {p : Addr} {vs : List V} {ds : List D} (x : Ext G H G1 H1) (hp : H1 p = none) (h : RpAll K G1 vs ds) : Res K H G1 (upd H1 p (.lst vs)) F ⟨.l .s, .list ds, []⟩ (.ref p) := by
  refine ⟨[p], .l upd_same (.ofS h), by simp, fun q z => ?_⟩
  have e : q = p := by simpa using z
  subst e
  exact .inl (x.none hp)
/-- a new tuple of shared items -/
theorem Res.newT {p : Addr} {vs : List V} {ds : List D} (x : Ext G H G1 H1) (hp : H1 p = none) (h : RpAll K G1 vs ds) :
    ∃ G2, Ext G H G2 (upd H1 p (.tup vs)) ∧ Res K H G2 (upd H1 p (.tup vs)) F (.sha (.tuple ds)) (.ref p) := by
  have x2 : Ext G H G1 (upd H1 p (.tup vs)) := x.new hp
  refine ⟨addL G1 (upd H1 p (.tup vs)) [], x2.addL (fun _ z => nomatch z), .ofDp (.tup (.inl (addL_tk x2.gh _ _ upd_same)) (dpAll_mono (addL_ge x2.gh) h))⟩
end

/-! ### arguments -/
section
variable {X : Cx} {e : Expr} {es : List Expr} {ma mb : Fm} {ms : Fms} {pos : Pos}
theorem ma_nil : MA X [] mNil := by
  refine ⟨tNil, pa_nil, ?_⟩
  intro He G0 G H σ env F rs Q g e k
  cases e
  exact k [] G H (Ext.refl g.gh) .nil
theorem ma_cons (ha : ME X e ma) (hr : MA X es ms) (hs : starEach (e :: es) X.env = (false, eval e X.env) :: starEach es X.env := by rfl) : MA X (e :: es) (mCons ma ms) := by
  obtain ⟨ta, pa, oa⟩ := ha.ex
  obtain ⟨ts, ps, os⟩ := hr.ex
  refine ⟨tCons ta ts, pa_cons pa ps hs, ?_⟩
  intro He G0 G H σ env F rs Q g e k
  unfold mCons at e
  cases h1 : ma env with
  | none => rw [h1] at e; cases e
  | some x =>
    rw [h1] at e
    cases h2 : ms env with
    | none => rw [h2] at e; cases e
    | some xs =>
      rw [h2] at e
      cases e
      refine oa He G0 G H σ env F x _ g h1 fun v G1 H1 x1 r1 => ?_
      refine os He G0 G1 H1 σ env F xs _ (g.ext x1) h2 fun vs G2 H2 x2 r2 => ?_
      exact k (v :: vs) G2 H2 (x1.trans x2) (.cons g x1 r1 x2 r2)

/-! ### names, constants -/
def rdS (i : Nat) : Sh → D → R
  | .s, d => ⟨.s, d, []⟩
  | sh, d => ⟨sh, d, [i]⟩
def mVar (i : Nat) : Fm := fun env => match env[i]? with
  | some (some (sh, d)) => some (rdS i sh d)
  | _ => none
theorem res_var {K : PySem.W.Frag} {He G0 G H : Hp} {σ : L2.St} {env : Env} {F : Fp} {i : Nat} {sh : Sh} {d : D} {v : V} (g : Good K He G0 G H σ env F) (o : Own K G H sh v d (F i)) : Res K H G H F (rdS i sh d) v := by
  cases sh with
  | s =>
    exact .ofDp o.sinv.1
  | l e => exact ⟨F i, o, g.nd i, fun p z => .inr ⟨i, by simp [rdS], z⟩⟩
  | t es => exact ⟨F i, o, g.nd i, fun p z => .inr ⟨i, by simp [rdS], z⟩⟩
theorem me_of_var {i : Nat} {e : Expr} (h : PE X e (tVar i)) : ME X e (mVar i) := by
  refine ⟨_, h, ?_⟩
  intro He G0 G H σ env F r Q g e k
  unfold mVar at e
  cases h1 : env[i]? with
  | none => rw [h1] at e; cases e
  | some x =>
    rw [h1] at e
    cases x with
    | none => cases e
    | some x =>
      obtain ⟨sh, d⟩ := x
      cases e
      obtain ⟨v, hv, o⟩ := g.slot i sh d h1
      exact ⟨v, hv, k v G H (Ext.refl g.gh) (res_var g o)⟩
theorem mv (i : Nat) {x : Str} {pos : Pos} (hN : X.N[i]? = some x := by rfl) (hv : Vis X.env.scope x := by first | exact Or.inl rfl | exact Or.inr (Or.inl rfl) | exact Or.inr (Or.inr rfl)) (hd : (x == ("__debug__" : Str)) = false := by decide)
    (hcd : (x == ("__classdict__" : Str)) = false := by decide) : ME X (.Name x pos) (mVar i) := me_of_var (pe_var hN hv hd hcd)
def mC (d : D) : Fm := fun _ => some ⟨.s, d, []⟩
theorem me_const {e : Expr} {v : V} {d : D} (h : PE X e (tC v)) (a : Atom d v) : ME X e (mC d) := by
  refine ⟨_, h, ?_⟩
  intro He G0 G H σ env F r Q g e k
  cases e
  exact k v G H (Ext.refl g.gh) (.ofAtom a)
theorem me_int {i j pos} : ME X (.Constant (.int i) j pos) (mC (.int i)) := me_const pe_int (.int i)
theorem me_bl {b j pos} : ME X (.Constant (.bool b) j pos) (mC (.bool b)) := me_const pe_bl (.bl b)
theorem me_non {j pos} : ME X (.Constant .none j pos) (mC .none) := me_const pe_non .non
theorem me_str {x j pos} : ME X (.Constant (.str x) j pos) (mC (.str x)) := me_const pe_str (.str x)

/-! ### two-place operations -/
/-- what an operation on values means on results -/
def O2 (K : PySem.W.Frag) (r : R2) (g : R → R → Option R) : Prop :=
  ∀ (H0 G H : Hp) (F : Fp) (x y : V) (a b c : R) (Q : VK) (G00 : Hp), Ext G00 H0 G H → Res K H0 G H F a x → Res K H0 G H F b y → g a b = some c →
    (∀ v G' H', Ext G00 H0 G' H' → Ext G H G' H' → Res K H0 G' H' F c v → Q v H') → r x y H Q
def m2 (g : R → R → Option R) (ma mb : Fm) : Fm := fun env => (ma env).bind fun a => (mb env).bind fun b => g a b
def g2or (f g : R → R → Option R) : R → R → Option R := fun a b => (f a b).or (g a b)
theorem O2.or {K : PySem.W.Frag} {r r' : R2} {f g : R → R → Option R} (h : O2 K r f) (h' : O2 K r' g) : O2 K (fun x y H Q => r x y H Q ∨ r' x y H Q) (g2or f g) := by
  intro H0 G H F x y a b c Q G00 k ra rb e q
  unfold g2or at e
  cases h1 : f a b with
  | some c' =>
    rw [h1] at e
    cases e
    exact .inl (h H0 G H F x y a b _ Q G00 k ra rb h1 q)
  | none =>
    rw [h1] at e
    exact .inr (h' H0 G H F x y a b c Q G00 k ra rb e q)
theorem OpR.or {f : Value → Value → Sem Value} {r r' : R2} (h : OpR X f r) (h' : OpR X f r') : OpR X f (fun x y H Q => r x y H Q ∨ r' x y H Q) := by
  intro pins s σ H x y v u Q I rx ry q
  rcases q with q | q
  · exact h pins s σ H x y v u Q I rx ry q
  · exact h' pins s σ H x y v u Q I rx ry q
theorem ev_m2 {K : PySem.W.Frag} {r : R2} {g : R → R → Option R} {ta tb : TE} (ho : O2 K r g) (oa : EvOk K ma ta) (ob : EvOk K mb tb) : EvOk K (m2 g ma mb) (tOp r ta tb) := by
  intro He G0 G H σ env F r Q gd e k
  unfold m2 at e
  cases h1 : ma env with
  | none => rw [h1] at e; cases e
  | some x =>
    rw [h1] at e
    cases h2 : mb env with
    | none => rw [h2] at e; cases e
    | some y =>
      rw [h2] at e
      refine oa He G0 G H σ env F x _ gd h1 fun v G1 H1 x1 r1 => ?_
      refine ob He G0 G1 H1 σ env F y _ (gd.ext x1) h2 fun u G2 H2 x2 r2 => ?_
      exact ho H G2 H2 F v u x y r Q G (x1.trans x2) (r1.next gd x1 x2) (r2.back x1.h) e fun w G3 H3 x3 _ r3 => k w G3 H3 x3 r3
theorem me_bin {a b : Expr} {op : Operator} {r : R2} {g : R → R → Option R} (ho : OpR X (binaryOp op) r) (o : O2 X.K r g) (ha : ME X a ma) (hb : ME X b mb) : ME X (.BinOp a op b pos) (m2 g ma mb) := by
  obtain ⟨ta, pa, oa⟩ := ha.ex
  obtain ⟨tb, pb, ob⟩ := hb.ex
  exact ⟨_, pe_op ho pa pb, ev_m2 o oa ob⟩
theorem me_cmp {a b : Expr} {op : CmpOp} {r : R2} {g : R → R → Option R} (ho : OpR X (compareOp op) r) (o : O2 X.K r g) (ha : ME X a ma) (hb : ME X b mb) (hm : behindInMarks op b = false) : ME X (.Compare a [op] [b] pos) (m2 g ma mb) := by
  obtain ⟨ta, pa, oa⟩ := ha.ex
  obtain ⟨tb, pb, ob⟩ := hb.ex
  exact ⟨_, pe_cmpR ho pa pb hm, ev_m2 o oa ob⟩
/-- scalar operations on ints -/
def gI (C : Int → Int → Bool) (f : Int → Int → D) : R → R → Option R := fun a b => match a.d, b.d with
  | .int i, .int j => if C i j then some ⟨.s, f i j, []⟩ else none
  | _, _ => none
theorem Res.int {K : PySem.W.Frag} {H0 G H : Hp} {F : Fp} {a : R} {x : V} {i : Int} (h : Res K H0 G H F a x) (e : a.d = .int i) : x = .int i := by
  obtain ⟨fp, o, _⟩ := h.own
  rw [e] at o
  generalize a.sh = sh at o
  cases o with
  | s h => cases h; rfl
theorem gI_inv {C : Int → Int → Bool} {f : Int → Int → D} {a b c : R} (h : gI C f a b = some c) : ∃ i j, a.d = .int i ∧ b.d = .int j ∧ C i j = true ∧ c = ⟨.s, f i j, []⟩ := by
  unfold gI at h
  split at h
  · rename_i i j h1 h2
    split at h
    · rename_i hc
      cases h
      exact ⟨i, j, h1, h2, hc, rfl⟩
    · cases h
  · cases h
theorem o2_int {K : PySem.W.Frag} {C : Int → Int → Prop} {g : Int → Int → V} {C' : Int → Int → Bool} {f : Int → Int → D} (hC : ∀ i j, C' i j = true → C i j) (hf : ∀ i j, Atom (f i j) (g i j)) : O2 K (rI C g) (gI C' f) := by
  intro H0 G H F x y a b c Q G00 k ra rb e q
  obtain ⟨i, j, e1, e2, hc, rfl⟩ := gI_inv e
  exact ⟨i, j, ra.int e1, rb.int e2, hC i j hc, q _ G H k (Ext.refl k.gh) (.ofAtom (hf i j))⟩
theorem o2_int0 {K : PySem.W.Frag} {g : Int → Int → V} {f : Int → Int → D} (hf : ∀ i j, Atom (f i j) (g i j)) : O2 K (rI0 g) (gI (fun _ _ => true) f) := by
  intro H0 G H F x y a b c Q G00 k ra rb e q
  obtain ⟨i, j, e1, e2, hc, rfl⟩ := gI_inv e
  exact ⟨i, j, ra.int e1, rb.int e2, q _ G H k (Ext.refl k.gh) (.ofAtom (hf i j))⟩
end
end M

set_option Elab.async false
set_option linter.all false
set_option maxRecDepth 100000
/-! Mini3: tests, comparisons, index, built-ins. -/
namespace M
open PySem PySem.Spec L2

section
variable {K : PySem.W.Frag} {He G0 G H G' H' G1 H1 G2 H2 H0 : Hp} {σ : L2.St} {env : Env} {F : Fp} {r : R} {v : V}
mutual
theorem dp_plain : ∀ {v : V} {d : D}, Rp K G v d → d.plain = true
  | _, _, .non => rfl
  | _, _, .bl _ => rfl
  | _, _, .int _ => rfl
  | _, _, .str _ => rfl
  | _, _, .lst _ h => by rw [PyData.plain]; exact dpAll_plain h
  | _, _, .tup _ h => by rw [PyData.plain]; exact dpAll_plain h
theorem dpAll_plain : ∀ {vs : List V} {ds : List D}, RpAll K G vs ds → PyData.plainAll ds = true
  | _, _, .nil => rfl
  | _, _, .cons h t => by rw [PyData.plainAll, dp_plain h, dpAll_plain t]; rfl
end
/-! ### tests -/
abbrev Ft := Env → Option Bool
def TvOk (K : PySem.W.Frag) (m : Ft) (t : TT) : Prop :=
  ∀ (He G0 G H : Hp) (σ : L2.St) (env : Env) (F : Fp) (b : Bool) (Q : Bool → Hp → Prop), Good K He G0 G H σ env F → m env = some b → (∀ G' H', Ext G H G' H' → Q b H') → t σ H Q
structure MT (X : Cx) (e : Expr) (m : Ft) : Prop where
  ex : ∃ t, PT X e t ∧ TvOk X.K m t
structure MW (X : Cx) (e : Expr) (m : Ft) : Prop where
  ex : ∃ t, PW X e t ∧ TvOk X.K m t
theorem Res.bl {a : R} {x : V} {i : Bool} (h : Res K H0 G H F a x) (e : a.d = .bool i) : x = .bl i := by
  obtain ⟨fp, o, _⟩ := h.own
  rw [e] at o
  generalize a.sh = sh at o
  cases o with
  | s h => cases h; rfl
theorem Res.str {a : R} {x : V} {i : Str} (h : Res K H0 G H F a x) (e : a.d = .str i) : x = .str i := by
  obtain ⟨fp, o, _⟩ := h.own
  rw [e] at o
  generalize a.sh = sh at o
  cases o with
  | s h => cases h; rfl
theorem Res.non {a : R} {x : V} (h : Res K H0 G H F a x) : (a.d = .none) ↔ x = .non := by
  obtain ⟨fp, o, _⟩ := h.own
  generalize a.sh = sh at o
  generalize a.d = d at o
  cases o with
  | s h => cases h <;> simp
  | l _ _ => simp
  | t _ _ => simp

def asB (r : R) : Option Bool := match r.d with
  | .bool b => some b
  | _ => none
theorem asB_inv {r : R} {b : Bool} (h : asB r = some b) : r.d = .bool b := by
  unfold asB at h
  split at h
  · rename_i x e; cases h; exact e
  · cases h
def mTv (m : Fm) : Ft := fun env => (m env).bind asB
theorem tv_of {m : Fm} {t : TE} (h : EvOk K m t) : TvOk K (mTv m) (tB t) := by
  intro He G0 G H σ env F b Q g e k
  unfold mTv at e
  cases h1 : m env with
  | none => rw [h1] at e; cases e
  | some r =>
    rw [h1] at e
    exact h He G0 G H σ env F r _ g h1 fun v G' H' x rr => ⟨b, rr.bl (asB_inv e), k G' H' x⟩
/-- truth by value -/
def truD (d : D) : Option Bool := match d with
  | .none => some false
  | .bool b => some b
  | .int i => some (i != 0)
  | .str y => if y.length ≤ sizeLine then some ((y.length : Int) != 0) else none
  | .list ds => some (!ds.isEmpty)
  | .tuple ds => some (!ds.isEmpty)
  | .dict _ => none
theorem emp_len {vs : List V} {ds : List D} (h : RpAll K G vs ds) : (!ds.isEmpty) = !vs.isEmpty := by
  cases h <;> rfl
theorem dp_tru {d : D} {b : Bool} (h : Rp K H v d) (e : truD d = some b) : TruV K v H b := by
  cases h with
  | non => cases e; rfl
  | bl b => cases e; rfl
  | int i => cases e; rfl
  | str x =>
    have e' : (if x.length ≤ sizeLine then some ((x.length : Int) != 0) else none) = some b := e
    by_cases z : x.length ≤ sizeLine
    · rw [if_pos z] at e'; cases e'; exact ⟨z, rfl⟩
    · rw [if_neg z] at e'; cases e'
  | lst s a => cases e; exact .inl ⟨_, s, emp_len a⟩
  | tup s a => cases e; exact .inr (.inl ⟨_, s.sq, emp_len a⟩)
def mTr (m : Fm) : Ft := fun env => (m env).bind fun r => truD r.d
end

section
variable {X : Cx} {e a b c : Expr} {es : List Expr} {m ma mb mc : Fm} {ta tb : Ft} {pos : Pos}
theorem mt_val (h : ME X e m) (he : ∀ whole, isTrue e X.env whole = (do let v ← whole; standAt e.pos; holding [v] (truthy v)) := by intro _; rfl) : MT X e (mTv m) := by
  obtain ⟨t, p, o⟩ := h.ex
  exact ⟨_, pt_val p he, tv_of o⟩
theorem mt_truth (h : ME X e m) (he : ∀ whole, isTrue e X.env whole = (do let v ← whole; standAt e.pos; holding [v] (truthy v)) := by intro _; rfl) : MT X e (mTr m) := by
  obtain ⟨t, p, o⟩ := h.ex
  refine ⟨_, pt_truth p he, ?_⟩
  intro He G0 G H σ env F b Q g e k
  unfold mTr at e
  cases h1 : m env with
  | none => rw [h1] at e; cases e
  | some r =>
    rw [h1] at e
    exact o He G0 G H σ env F r _ g h1 fun v G' H' x rr => ⟨b, dp_tru (rr.dp x.gh) e, k G' H' x⟩
theorem mt_cmp {op : CmpOp} {r : R2} {g : R → R → Option R} (ho : OpR X (compareOp op) r) (o : O2 X.K r g) (ha : ME X a ma) (hb : ME X b mb) (hm : behindInMarks op b = false) : MT X (.Compare a [op] [b] pos) (mTv (m2 g ma mb)) := by
  obtain ⟨ta, pa, oa⟩ := ha.ex
  obtain ⟨tb, pb, ob⟩ := hb.ex
  exact ⟨_, pt_cmpR ho pa pb hm, tv_of (ev_m2 o oa ob)⟩
theorem MW.mt (h : MW X e ta) : MT X e ta := by
  obtain ⟨t, p, o⟩ := h.ex
  exact ⟨t, p.pt, o⟩
def mAnd (a b : Ft) : Ft := fun env => (a env).bind fun x => if x then b env else some false
def mOr (a b : Ft) : Ft := fun env => (a env).bind fun x => if x then some true else b env
def mNot (a : Ft) : Ft := fun env => (a env).bind fun x => some (!x)
theorem mw_and1 (ha : MT X a ta) : MW X (.BoolOp .And [a] pos) ta := by
  obtain ⟨t, p, o⟩ := ha.ex
  exact ⟨t, pw_and1 p, o⟩
theorem mw_or1 (ha : MT X a ta) : MW X (.BoolOp .Or [a] pos) ta := by
  obtain ⟨t, p, o⟩ := ha.ex
  exact ⟨t, pw_or1 p, o⟩
theorem mw_and {rest : List Expr} (ha : MT X a ta) (hb : MW X (.BoolOp .And (b :: rest) pos) tb) : MW X (.BoolOp .And (a :: b :: rest) pos) (mAnd ta tb) := by
  obtain ⟨t, p, o⟩ := ha.ex
  obtain ⟨u, q, o'⟩ := hb.ex
  refine ⟨_, pw_and p q, ?_⟩
  intro He G0 G H σ env F r Q g e k
  unfold mAnd at e
  cases h1 : ta env with
  | none => rw [h1] at e; cases e
  | some x =>
    rw [h1] at e
    refine o He G0 G H σ env F x _ g h1 fun G1 H1 x1 => ?_
    cases x with
    | true => exact o' He G0 G1 H1 σ env F r _ (g.ext x1) e fun G2 H2 x2 => k G2 H2 (x1.trans x2)
    | false => cases e; exact k G1 H1 x1
theorem mw_or {rest : List Expr} (ha : MT X a ta) (hb : MW X (.BoolOp .Or (b :: rest) pos) tb) : MW X (.BoolOp .Or (a :: b :: rest) pos) (mOr ta tb) := by
  obtain ⟨t, p, o⟩ := ha.ex
  obtain ⟨u, q, o'⟩ := hb.ex
  refine ⟨_, pw_or p q, ?_⟩
  intro He G0 G H σ env F r Q g e k
  unfold mOr at e
  cases h1 : ta env with
  | none => rw [h1] at e; cases e
  | some x =>
    rw [h1] at e
    refine o He G0 G H σ env F x _ g h1 fun G1 H1 x1 => ?_
    cases x with
    | false => exact o' He G0 G1 H1 σ env F r _ (g.ext x1) e fun G2 H2 x2 => k G2 H2 (x1.trans x2)
    | true => cases e; exact k G1 H1 x1
theorem mt_not (ha : MT X a ta) : MT X (.UnaryOp .Not a pos) (mNot ta) := by
  obtain ⟨t, p, o⟩ := ha.ex
  refine ⟨_, pt_not p, ?_⟩
  intro He G0 G H σ env F r Q g e k
  unfold mNot at e
  cases h1 : ta env with
  | none => rw [h1] at e; cases e
  | some x =>
    rw [h1] at e
    cases e
    exact o He G0 G H σ env F x _ g h1 fun G1 H1 x1 => k G1 H1 x1
def mIte (c : Ft) (a b : Fm) : Fm := fun env => (c env).bind fun x => if x then a env else b env
theorem me_ife (hc : MT X c ta) (ha : ME X a ma) (hb : ME X b mb) : ME X (.IfExp c a b pos) (mIte ta ma mb) := by
  obtain ⟨t, p, o⟩ := hc.ex
  obtain ⟨u, q, o'⟩ := ha.ex
  obtain ⟨w, z, o2⟩ := hb.ex
  refine ⟨_, pe_ifExp p q z, ?_⟩
  intro He G0 G H σ env F r Q g e k
  unfold mIte at e
  cases h1 : ta env with
  | none => rw [h1] at e; cases e
  | some x =>
    rw [h1] at e
    refine o He G0 G H σ env F x _ g h1 fun G1 H1 x1 => ?_
    cases x with
    | true => exact o' He G0 G1 H1 σ env F r _ (g.ext x1) e fun v G2 H2 x2 r2 => k v G2 H2 (x1.trans x2) (r2.back x1.h)
    | false => exact o2 He G0 G1 H1 σ env F r _ (g.ext x1) e fun v G2 H2 x2 r2 => k v G2 H2 (x1.trans x2) (r2.back x1.h)
/-- and, or, not as values of truth values -/
def mAndV (a b : Fm) : Fm := fun env => (a env).bind fun x => (asB x).bind fun c => if c then b env else some (.sha (.bool false))
def mOrV (a b : Fm) : Fm := fun env => (a env).bind fun x => (asB x).bind fun c => if c then some (.sha (.bool true)) else b env
def mNotV (a : Fm) : Fm := fun env => (a env).bind fun x => (asB x).bind fun c => some (.sha (.bool (!c)))
theorem me_one {op} (h : ME X a ma) : ME X (.BoolOp op [a] pos) ma := by
  obtain ⟨t, p, o⟩ := h.ex
  exact ⟨t, pe_one p, o⟩
theorem me_and {rest : List Expr} (ha : ME X a ma) (hb : ME X (.BoolOp .And (b :: rest) pos) mb) : ME X (.BoolOp .And (a :: b :: rest) pos) (mAndV ma mb) := by
  obtain ⟨t, p, o⟩ := ha.ex
  obtain ⟨u, q, o'⟩ := hb.ex
  refine ⟨_, pe_and p q, ?_⟩
  intro He G0 G H σ env F r Q g e k
  unfold mAndV at e
  cases h1 : ma env with
  | none => rw [h1] at e; cases e
  | some x =>
    rw [h1] at e
    cases h2 : asB x with
    | none => simp [h2] at e
    | some c =>
      simp only [Option.bind_some, h2] at e
      refine o He G0 G H σ env F x _ g h1 fun v G1 H1 x1 r1 => ⟨c, r1.bl (asB_inv h2), ?_⟩
      cases c with
      | true => exact o' He G0 G1 H1 σ env F r _ (g.ext x1) e fun v G2 H2 x2 r2 => k v G2 H2 (x1.trans x2) (r2.back x1.h)
      | false => cases e; exact k _ G1 H1 x1 (.ofAtom (.bl _))
theorem me_or {rest : List Expr} (ha : ME X a ma) (hb : ME X (.BoolOp .Or (b :: rest) pos) mb) : ME X (.BoolOp .Or (a :: b :: rest) pos) (mOrV ma mb) := by
  obtain ⟨t, p, o⟩ := ha.ex
  obtain ⟨u, q, o'⟩ := hb.ex
  refine ⟨_, pe_or p q, ?_⟩
  intro He G0 G H σ env F r Q g e k
  unfold mOrV at e
  cases h1 : ma env with
  | none => rw [h1] at e; cases e
  | some x =>
    rw [h1] at e
    cases h2 : asB x with
    | none => simp [h2] at e
    | some c =>
      simp only [Option.bind_some, h2] at e
      refine o He G0 G H σ env F x _ g h1 fun v G1 H1 x1 r1 => ⟨c, r1.bl (asB_inv h2), ?_⟩
      cases c with
      | false => exact o' He G0 G1 H1 σ env F r _ (g.ext x1) e fun v G2 H2 x2 r2 => k v G2 H2 (x1.trans x2) (r2.back x1.h)
      | true => cases e; exact k _ G1 H1 x1 (.ofAtom (.bl _))
theorem me_not (ha : ME X a ma) : ME X (.UnaryOp .Not a pos) (mNotV ma) := by
  obtain ⟨t, p, o⟩ := ha.ex
  refine ⟨_, pe_not p, ?_⟩
  intro He G0 G H σ env F r Q g e k
  unfold mNotV at e
  cases h1 : ma env with
  | none => rw [h1] at e; cases e
  | some x =>
    rw [h1] at e
    cases h2 : asB x with
    | none => simp [h2] at e
    | some c =>
      simp only [Option.bind_some, h2] at e
      cases e
      exact o He G0 G H σ env F x _ g h1 fun v G1 H1 x1 r1 => ⟨c, r1.bl (asB_inv h2), k _ G1 H1 x1 (.ofAtom (.bl _))⟩

/-! ### two-place operations of data with a scalar result -/
def r2S (K : PySem.W.Frag) (g : D → D → Option D) : R2 := fun x y H Q => ∃ a b d v, Rp K H x a ∧ Rp K H y b ∧ g a b = some d ∧ Atom d v ∧ Q v H
def g2S (g : D → D → Option D) : R → R → Option R := fun a b => (g a.d b.d).bind fun d => some (.sha d)
theorem o2_S {K : PySem.W.Frag} {g : D → D → Option D} (hg : ∀ a b d, g a b = some d → ∃ v, Atom d v) : O2 K (r2S K g) (g2S g) := by
  intro H0 G H F x y a b c Q G00 k ra rb e q
  unfold g2S at e
  cases h1 : g a.d b.d with
  | none => rw [h1] at e; cases e
  | some d =>
    rw [h1] at e
    cases e
    obtain ⟨v, hv⟩ := hg _ _ _ h1
    exact ⟨_, _, d, v, ra.dp k.gh, rb.dp k.gh, h1, hv, q v G H k (Ext.refl k.gh) (.ofAtom hv)⟩
def gEq (a b : D) : Option D := if min a.depth b.depth ≤ 64 then some (.bool (PyData.eqv a b)) else none
def gNe (a b : D) : Option D := if min a.depth b.depth ≤ 64 then some (.bool (!PyData.eqv a b)) else none
theorem op_eqS (hu : X.A.units + 64 < cLine) : OpR X (compareOp .Eq) (r2S X.K gEq) := by
  intro pins s σ H x y v u Q I rx ry h
  obtain ⟨d, e, f, w, hd, he, hg, hw, q⟩ := h
  unfold gEq at hg
  split at hg
  · rename_i hm
    cases hg
    obtain ⟨as, r1⟩ := Rp.reads I d x v hd rx
    obtain ⟨bs, r2⟩ := Rp.reads I e y u he ry
    have ew : w = .bl (PyData.eqv d e) := by
      have := hw X.K H
      cases this; rfl
    subst ew
    exact SeqAt.eq_plain r1 r2 (dp_plain hd) (dp_plain he) (by omega) ⟨.bl _, H, I, rfl, q⟩
  · cases hg
theorem op_neS (hu : X.A.units + 64 < cLine) : OpR X (compareOp .NotEq) (r2S X.K gNe) := by
  intro pins s σ H x y v u Q I rx ry h
  obtain ⟨d, e, f, w, hd, he, hg, hw, q⟩ := h
  unfold gNe at hg
  split at hg
  · rename_i hm
    cases hg
    obtain ⟨as, r1⟩ := Rp.reads I d x v hd rx
    obtain ⟨bs, r2⟩ := Rp.reads I e y u he ry
    have ew : w = .bl (!PyData.eqv d e) := by
      have := hw X.K H
      cases this; rfl
    subst ew
    exact SeqAt.ne_plain r1 r2 (dp_plain hd) (dp_plain he) (by omega) ⟨.bl _, H, I, rfl, q⟩
  · cases hg
theorem o2_eq {K : PySem.W.Frag} : O2 K (r2S K gEq) (g2S gEq) := o2_S fun a b d h => by
  unfold gEq at h; split at h
  · cases h; exact ⟨_, .bl _⟩
  · cases h
theorem o2_ne {K : PySem.W.Frag} : O2 K (r2S K gNe) (g2S gNe) := o2_S fun a b d h => by
  unfold gNe at h; split at h
  · cases h; exact ⟨_, .bl _⟩
  · cases h
end
end M

set_option Elab.async false
set_option linter.all false
set_option maxRecDepth 100000
/-! Mini4: in, is None, built-in calls, index, slices. -/
namespace M
open PySem PySem.Spec L2

section
variable {K : PySem.W.Frag} {He G0 G H G' H' G1 H1 G2 H2 H0 : Hp} {σ : L2.St} {env : Env} {F : Fp} {r : R} {v : V}
/-! ### items that are shared -/
/-- the items of a list or tuple whose items are shared -/
def elemsR (r : R) : Option (List D) := match r.sh, r.d with
  | .s, .list ds => some ds
  | .l .s, .list ds => some ds
  | .s, .tuple ds => some ds
  | _, _ => none
/-- the object at v holds items that are data of what is shared -/
def Items (K : PySem.W.Frag) (G H : Hp) (v : V) (us : List V) (ds : List D) : Prop := ∃ a, v = .ref a ∧ (SqL K H a us ∨ SqT K H a us) ∧ RpAll K G us ds
theorem elems_inv {r : R} {ds : List D} (h : elemsR r = some ds) : (r.sh = .s ∧ r.d = .list ds) ∨ (r.sh = .l .s ∧ r.d = .list ds) ∨ (r.sh = .s ∧ r.d = .tuple ds) := by
  obtain ⟨sh, d, src⟩ := r
  unfold elemsR at h
  dsimp only at h ⊢
  split at h
  · cases h; exact .inl ⟨rfl, rfl⟩
  · cases h; exact .inr (.inl ⟨rfl, rfl⟩)
  · cases h; exact .inr (.inr ⟨rfl, rfl⟩)
  · cases h
theorem Res.items {ds : List D} (k : Le G H) (h : Res K H0 G H F r v) (e : elemsR r = some ds) : ∃ us, Items K G H v us ds ∧ (r.d = .list ds → ∃ a, v = .ref a ∧ SqL K H a us) := by
  obtain ⟨fp, o, _⟩ := h.own
  rcases elems_inv e with ⟨e1, e2⟩ | ⟨e1, e2⟩ | ⟨e1, e2⟩
  · rw [e1, e2] at o
    cases o with
    | s h => cases h with
      | lst s a => exact ⟨_, ⟨_, rfl, .inl (sql_mono k s), a⟩, fun _ => ⟨_, rfl, sql_mono k s⟩⟩
  · rw [e1, e2] at o
    cases o with
    | l e os =>
      obtain ⟨a, _⟩ := os.sall
      exact ⟨_, ⟨_, rfl, .inl (.of e), a⟩, fun _ => ⟨_, rfl, .of e⟩⟩
  · rw [e1, e2] at o
    cases o with
    | s h => cases h with
      | tup s a => exact ⟨_, ⟨_, rfl, .inr (s.mono k).sq, a⟩, fun z => by rw [e2] at z; cases z⟩

/-! ### calls with a scalar result -/
def rS (K : PySem.W.Frag) (g : List D → Option D) : List V → Hp → VK → Prop := fun vs H Q => ∃ ds d v, RpAll K H vs ds ∧ g ds = some d ∧ Atom d v ∧ Q v H
def mCS (g : List D → Option D) (ms : Fms) : Fm := fun env => (ms env).bind fun rs => (g (rs.map R.d)).bind fun d => some (.sha d)
theorem ev_CS {g : List D → Option D} {ms : Fms} {t : TA} (hg : ∀ a d, g a = some d → ∃ v, Atom d v) (o : AvOk K ms t) : EvOk K (mCS g ms) (tCB (rS K g) t) := by
  intro He G0 G H σ env F r Q gd e k
  unfold mCS at e
  cases h1 : ms env with
  | none => rw [h1] at e; cases e
  | some rs =>
    rw [h1] at e
    cases h2 : g (rs.map R.d) with
    | none => simp [h2] at e
    | some d =>
      simp only [Option.bind_some, h2] at e
      cases e
      refine o He G0 G H σ env F rs _ gd h1 fun vs G1 H1 x1 r1 => ?_
      obtain ⟨v, hv⟩ := hg _ _ h2
      exact ⟨_, d, v, r1.dp x1.gh, h2, hv, k v G1 H1 x1 (.ofAtom hv)⟩
/-- calls with one argument, whose items are shared, that give a new list of shared items -/
def rL (K : PySem.W.Frag) (g : List D → Option (List D)) : List V → Hp → VK → Prop := fun vs H Q => ∃ G v us ds es, vs = [v] ∧ Le G H ∧ Items K G H v us ds ∧ g ds = some es ∧ ∀ p ws, H p = none → RpAll K G ws es → Q (.ref p) (upd H p (.lst ws))
def mCL (g : List D → Option (List D)) (m : Fm) : Fm := fun env => (m env).bind fun r => (elemsR r).bind fun ds => (g ds).bind fun es => some ⟨.l .s, .list es, []⟩
theorem ev_CL {g : List D → Option (List D)} {m : Fm} {t : TE} (o : EvOk K m t) : EvOk K (mCL g m) (tCB (rL K g) (tCons t tNil)) := by
  intro He G0 G H σ env F r Q gd e k
  unfold mCL at e
  cases h1 : m env with
  | none => rw [h1] at e; cases e
  | some r1 =>
    rw [h1] at e
    cases h2 : elemsR r1 with
    | none => simp [h2] at e
    | some ds =>
      cases h3 : g ds with
      | none => simp [h2, h3] at e
      | some es =>
        simp only [Option.bind_some, h2, h3] at e
        cases e
        refine o He G0 G H σ env F r1 _ gd h1 fun v G1 H1 x1 rr => ?_
        obtain ⟨us, it, _⟩ := rr.items x1.gh h2
        exact ⟨G1, v, us, ds, es, rfl, x1.gh, it, h3, fun p ws hp hw => k _ G1 _ (x1.new hp) (.newL x1 hp hw)⟩
/-- .. that give one of the items -/
def rI1 (K : PySem.W.Frag) (g : List D → Option D) : List V → Hp → VK → Prop := fun vs H Q => ∃ G v us ds d, vs = [v] ∧ Le G H ∧ Items K G H v us ds ∧ g ds = some d ∧ ∀ w, Rp K G w d → Q w H
def mCI (g : List D → Option D) (m : Fm) : Fm := fun env => (m env).bind fun r => (elemsR r).bind fun ds => (g ds).bind fun d => some (.sha d)
theorem ev_CI {g : List D → Option D} {m : Fm} {t : TE} (o : EvOk K m t) : EvOk K (mCI g m) (tCB (rI1 K g) (tCons t tNil)) := by
  intro He G0 G H σ env F r Q gd e k
  unfold mCI at e
  cases h1 : m env with
  | none => rw [h1] at e; cases e
  | some r1 =>
    rw [h1] at e
    cases h2 : elemsR r1 with
    | none => simp [h2] at e
    | some ds =>
      cases h3 : g ds with
      | none => simp [h2, h3] at e
      | some es =>
        simp only [Option.bind_some, h2, h3] at e
        cases e
        refine o He G0 G H σ env F r1 _ gd h1 fun v G1 H1 x1 rr => ?_
        obtain ⟨us, it, _⟩ := rr.items x1.gh h2
        exact ⟨G1, v, us, ds, es, rfl, x1.gh, it, h3, fun w hw => k _ G1 H1 x1 (.ofDp hw)⟩
end

section
variable {X : Cx} {e a b c : Expr} {es : List Expr} {m ma mb mc : Fm} {ms : Fms} {pos p : Pos} {x : Str} {bid T : String}
theorem me_callS {g : List D → Option D} (hg : ∀ a d, g a = some d → ∃ v, Atom d v) (hc : CallR X (.builtin bid) (rS X.K g)) (hgl : Gl X x) (hm : X.mg x = none) (hv : bootBuiltins x = some (.builtin bid)) (ha : MA X (e :: es) ms) (hn : x ≠ "__name__" := by decide)
    (hdb : (x == ("__debug__" : Str)) = false := by decide) (he : starEach (e :: es) X.env = (false, eval e X.env) :: starEach es X.env := by rfl) (hpl : (backTo pos (starEach es X.env)).any (·.1) = false := by rfl) :
    ME X (.Call (.Name x p) (e :: es) [] pos) (mCS g ms) := by
  obtain ⟨t, pa, o⟩ := ha.ex
  exact ⟨_, pe_callB hc hgl hm hv pa hn hdb he hpl, ev_CS hg o⟩
theorem me_callST {g : List D → Option D} (hg : ∀ a d, g a = some d → ∃ v, Atom d v) (hc : CallR X (.type T) (rS X.K g)) (hgl : Gl X x) (hm : X.mg x = none) (hv : bootBuiltins x = some (.type T)) (ha : MA X (e :: es) ms) (hn : x ≠ "__name__" := by decide)
    (hdb : (x == ("__debug__" : Str)) = false := by decide) (he : starEach (e :: es) X.env = (false, eval e X.env) :: starEach es X.env := by rfl) (hpl : (backTo pos (starEach es X.env)).any (·.1) = false := by rfl) :
    ME X (.Call (.Name x p) (e :: es) [] pos) (mCS g ms) := by
  obtain ⟨t, pa, o⟩ := ha.ex
  exact ⟨_, pe_callTy hc hgl hm hv pa hn hdb he hpl, ev_CS hg o⟩
theorem me_callL {g : List D → Option (List D)} (hc : CallR X (.builtin bid) (rL X.K g)) (hgl : Gl X x) (hm : X.mg x = none) (hv : bootBuiltins x = some (.builtin bid)) (ha : ME X e m) (hn : x ≠ "__name__" := by decide)
    (hdb : (x == ("__debug__" : Str)) = false := by decide) (he : starEach [e] X.env = (false, eval e X.env) :: starEach [] X.env := by rfl) (hpl : (backTo pos (starEach [] X.env)).any (·.1) = false := by rfl) :
    ME X (.Call (.Name x p) [e] [] pos) (mCL g m) := by
  obtain ⟨t, pa, o⟩ := ha.ex
  exact ⟨_, pe_callB hc hgl hm hv (pa_cons pa pa_nil he) hn hdb he hpl, ev_CL o⟩
theorem me_callLT {g : List D → Option (List D)} (hc : CallR X (.type T) (rL X.K g)) (hgl : Gl X x) (hm : X.mg x = none) (hv : bootBuiltins x = some (.type T)) (ha : ME X e m) (hn : x ≠ "__name__" := by decide)
    (hdb : (x == ("__debug__" : Str)) = false := by decide) (he : starEach [e] X.env = (false, eval e X.env) :: starEach [] X.env := by rfl) (hpl : (backTo pos (starEach [] X.env)).any (·.1) = false := by rfl) :
    ME X (.Call (.Name x p) [e] [] pos) (mCL g m) := by
  obtain ⟨t, pa, o⟩ := ha.ex
  exact ⟨_, pe_callTy hc hgl hm hv (pa_cons pa pa_nil he) hn hdb he hpl, ev_CL o⟩
theorem me_callI {g : List D → Option D} (hc : CallR X (.builtin bid) (rI1 X.K g)) (hgl : Gl X x) (hm : X.mg x = none) (hv : bootBuiltins x = some (.builtin bid)) (ha : ME X e m) (hn : x ≠ "__name__" := by decide)
    (hdb : (x == ("__debug__" : Str)) = false := by decide) (he : starEach [e] X.env = (false, eval e X.env) :: starEach [] X.env := by rfl) (hpl : (backTo pos (starEach [] X.env)).any (·.1) = false := by rfl) :
    ME X (.Call (.Name x p) [e] [] pos) (mCI g m) := by
  obtain ⟨t, pa, o⟩ := ha.ex
  exact ⟨_, pe_callB hc hgl hm hv (pa_cons pa pa_nil he) hn hdb he hpl, ev_CI o⟩

/-! ### len, int, abs, max, min of two, sum, any, all -/
theorem dp_int {K : PySem.W.Frag} {H : Hp} {v : V} {i : Int} (h : Rp K H v (.int i)) : v = .int i := by cases h; rfl
theorem dp_bl {K : PySem.W.Frag} {H : Hp} {v : V} {i : Bool} (h : Rp K H v (.bool i)) : v = .bl i := by cases h; rfl
theorem dp_str {K : PySem.W.Frag} {H : Hp} {v : V} {i : Str} (h : Rp K H v (.str i)) : v = .str i := by cases h; rfl
theorem atom_int {i : Int} {v : V} (h : Atom (.int i) v) : v = .int i := dp_int (h [] fun _ => none)
theorem atom_bl {i : Bool} {v : V} (h : Atom (.bool i) v) : v = .bl i := dp_bl (h [] fun _ => none)
theorem atom_str {i : Str} {v : V} (h : Atom (.str i) v) : v = .str i := dp_str (h [] fun _ => none)
def gLen : List D → Option D
  | [.list ds] => some (.int ds.length)
  | [.tuple ds] => some (.int ds.length)
  | [.str y] => if y.length ≤ sizeLine then some (.int y.length) else none
  | _ => none
theorem gLen_atom : ∀ a d, gLen a = some d → ∃ v, Atom d v := by
  intro a d h
  unfold gLen at h
  split at h
  · cases h; exact ⟨_, .int _⟩
  · cases h; exact ⟨_, .int _⟩
  · split at h
    · cases h; exact ⟨_, .int _⟩
    · cases h
  · cases h
theorem cr_len : CallR X (.builtin "len") (rS X.K gLen) := by
  intro pins s σ H vs us Q I r h
  obtain ⟨ds, d, v, hd, hg, hv, q⟩ := h
  refine call_len pins s σ H vs us Q I r ?_
  unfold gLen at hg
  split at hg
  · cases hd with
    | cons h t =>
      cases t; cases hg
      cases h with
      | lst s a => exact ⟨_, _, rfl, .inl ⟨_, s, rfl⟩, by rw [dpAll_len a]; rw [atom_int hv] at q; exact q⟩
  · cases hd with
    | cons h t =>
      cases t; cases hg
      cases h with
      | tup s a => exact ⟨_, _, rfl, .inr ⟨_, s.sq, rfl⟩, by rw [dpAll_len a]; rw [atom_int hv] at q; exact q⟩
  · split at hg
    · rename_i z
      cases hd with
      | cons h t =>
        cases t; cases hg
        cases h
        exact ⟨_, _, rfl, ⟨z, rfl⟩, by rw [atom_int hv] at q; exact q⟩
    · cases hg
  · cases hg
def gInt : List D → Option D
  | [.int i] => some (.int i)
  | [.bool b] => some (.int (if b then 1 else 0))
  | _ => none
theorem gInt_atom : ∀ a d, gInt a = some d → ∃ v, Atom d v := by
  intro a d h
  unfold gInt at h
  split at h <;> first | (cases h; exact ⟨_, .int _⟩) | cases h
theorem cr_int : CallR X (.type "int") (rS X.K gInt) := by
  intro pins s σ H vs us Q I r h
  obtain ⟨ds, d, v, hd, hg, hv, q⟩ := h
  refine call_int1 pins s σ H vs us Q I r ?_
  unfold gInt at hg
  split at hg
  · cases hd with
    | cons h t =>
      cases t; cases hg; cases h
      exact .inl ⟨_, rfl, by rw [atom_int hv] at q; exact q⟩
  · cases hd with
    | cons h t =>
      cases t; cases hg; cases h
      exact .inr ⟨_, rfl, by rw [atom_int hv] at q; exact q⟩
  · cases hg
def gAbs : List D → Option D
  | [.int i] => some (.int (if i < 0 then -i else i))
  | _ => none
theorem gAbs_atom : ∀ a d, gAbs a = some d → ∃ v, Atom d v := by
  intro a d h
  unfold gAbs at h
  split at h <;> first | (cases h; exact ⟨_, .int _⟩) | cases h
theorem cr_abs : CallR X (.builtin "abs") (rS X.K gAbs) := by
  intro pins s σ H vs us Q I r h
  obtain ⟨ds, d, v, hd, hg, hv, q⟩ := h
  refine call_abs pins s σ H vs us Q I r ?_
  unfold gAbs at hg
  split at hg
  · cases hd with
    | cons h t =>
      cases t; cases hg; cases h
      exact ⟨_, rfl, by rw [atom_int hv] at q; exact q⟩
  · cases hg
def gMax2 : List D → Option D
  | [.int i, .int j] => some (.int (max i j))
  | _ => none
def gMin2 : List D → Option D
  | [.int i, .int j] => some (.int (min i j))
  | _ => none
theorem gMax2_atom : ∀ a d, gMax2 a = some d → ∃ v, Atom d v := by
  intro a d h
  unfold gMax2 at h
  split at h <;> first | (cases h; exact ⟨_, .int _⟩) | cases h
theorem gMin2_atom : ∀ a d, gMin2 a = some d → ∃ v, Atom d v := by
  intro a d h
  unfold gMin2 at h
  split at h <;> first | (cases h; exact ⟨_, .int _⟩) | cases h
theorem cr_max2 (hc : X.calm = true) : CallR X (.builtin "max") (rS X.K gMax2) := by
  intro pins s σ H vs us Q I r h
  obtain ⟨ds, d, v, hd, hg, hv, q⟩ := h
  refine call_max2 hc pins s σ H vs us Q I r ?_
  unfold gMax2 at hg
  split at hg
  · rename_i i j
    cases hd with
    | cons h t =>
      cases t with
      | cons h' t =>
        cases t; cases hg; cases h; cases h'
        refine ⟨_, _, rfl, ?_⟩
        rw [atom_int hv] at q
        have : max i j = if j > i then j else i := by
          rw [Int.max_def]; split <;> split <;> omega
        rw [← this]; exact q
  · cases hg
theorem cr_min2 (hc : X.calm = true) : CallR X (.builtin "min") (rS X.K gMin2) := by
  intro pins s σ H vs us Q I r h
  obtain ⟨ds, d, v, hd, hg, hv, q⟩ := h
  refine call_min2 hc pins s σ H vs us Q I r ?_
  unfold gMin2 at hg
  split at hg
  · rename_i i j
    cases hd with
    | cons h t =>
      cases t with
      | cons h' t =>
        cases t; cases hg; cases h; cases h'
        refine ⟨_, _, rfl, ?_⟩
        rw [atom_int hv] at q
        have : min i j = if j < i then j else i := by
          rw [Int.min_def]; split <;> split <;> omega
        rw [← this]; exact q
  · cases hg
/-- all are ints -/
def intsOf : List D → Option (List Int)
  | [] => some []
  | .int i :: r => (intsOf r).map (i :: ·)
  | _ :: _ => none
theorem intsOf_map (ns : List Int) : intsOf (ns.map .int) = some ns := by
  induction ns with
  | nil => rfl
  | cons n r ih => rw [List.map_cons, intsOf, ih]; rfl
theorem intsOf_inv : ∀ {ds : List D} {ns : List Int}, intsOf ds = some ns → ds = ns.map .int
  | [], _, h => by cases h; rfl
  | .int i :: r, ns, h => by
    rw [intsOf] at h
    cases h1 : intsOf r with
    | none => rw [h1] at h; cases h
    | some ms => rw [h1] at h; cases h; rw [intsOf_inv h1]; rfl
  | .none :: _, _, h => by cases h
  | .bool _ :: _, _, h => by cases h
  | .str _ :: _, _, h => by cases h
  | .list _ :: _, _, h => by cases h
  | .tuple _ :: _, _, h => by cases h
  | .dict _ :: _, _, h => by cases h
theorem dpAll_ints {K : PySem.W.Frag} {G : Hp} : ∀ {ns : List Int} {vs : List V}, RpAll K G vs (ns.map .int) → vs = ns.map V.int
  | [], _, h => by cases h; rfl
  | n :: r, _, h => by
    cases h with
    | cons h t => rw [dpAll_ints t, dp_int h]; rfl
def gSum : List D → Option D
  | [.list ds] => (intsOf ds).bind fun ns => some (.int ns.sum)
  | _ => none
theorem gSum_atom : ∀ a d, gSum a = some d → ∃ v, Atom d v := by
  intro a d h
  unfold gSum at h
  split at h
  · rename_i ds
    cases h1 : intsOf ds with
    | none => rw [h1] at h; cases h
    | some ns => rw [h1] at h; cases h; exact ⟨_, .int _⟩
  · cases h
theorem cr_sumD (hc : X.calm = true) : CallR X (.builtin "sum") (rS X.K gSum) := by
  intro pins s σ H vs us Q I r h
  obtain ⟨ds, d, v, hd, hg, hv, q⟩ := h
  refine cr_sum hc pins s σ H vs us Q I r ?_
  unfold gSum at hg
  split at hg
  · rename_i es
    cases h1 : intsOf es with
    | none => rw [h1] at hg; cases hg
    | some ns =>
      rw [h1] at hg; cases hg
      cases hd with
      | cons h t =>
        cases t
        cases h with
        | lst s a =>
          have e := intsOf_inv h1
          subst e
          rw [dpAll_ints a] at s
          exact ⟨_, ns, rfl, s, by rw [atom_int hv] at q; exact q⟩
  · cases hg
/-- all are truth values -/
def blsOf : List D → Option (List Bool)
  | [] => some []
  | .bool i :: r => (blsOf r).map (i :: ·)
  | _ :: _ => none
theorem blsOf_map (ns : List Bool) : blsOf (ns.map .bool) = some ns := by
  induction ns with
  | nil => rfl
  | cons n r ih => rw [List.map_cons, blsOf, ih]; rfl
theorem blsOf_inv : ∀ {ds : List D} {ns : List Bool}, blsOf ds = some ns → ds = ns.map .bool
  | [], _, h => by cases h; rfl
  | .bool i :: r, ns, h => by
    rw [blsOf] at h
    cases h1 : blsOf r with
    | none => rw [h1] at h; cases h
    | some ms => rw [h1] at h; cases h; rw [blsOf_inv h1]; rfl
  | .none :: _, _, h => by cases h
  | .int _ :: _, _, h => by cases h
  | .str _ :: _, _, h => by cases h
  | .list _ :: _, _, h => by cases h
  | .tuple _ :: _, _, h => by cases h
  | .dict _ :: _, _, h => by cases h
theorem dpAll_bls {K : PySem.W.Frag} {G : Hp} : ∀ {ns : List Bool} {vs : List V}, RpAll K G vs (ns.map .bool) → vs = ns.map V.bl
  | [], _, h => by cases h; rfl
  | n :: r, _, h => by
    cases h with
    | cons h t => rw [dpAll_bls t, dp_bl h]; rfl
def gAny : List D → Option D
  | [.list ds] => (blsOf ds).bind fun ns => some (.bool (ns.any id))
  | _ => none
def gAll : List D → Option D
  | [.list ds] => (blsOf ds).bind fun ns => some (.bool (ns.all id))
  | _ => none
theorem gAny_atom : ∀ a d, gAny a = some d → ∃ v, Atom d v := by
  intro a d h
  unfold gAny at h
  split at h
  · rename_i ds
    cases h1 : blsOf ds with
    | none => rw [h1] at h; cases h
    | some ns => rw [h1] at h; cases h; exact ⟨_, .bl _⟩
  · cases h
theorem gAll_atom : ∀ a d, gAll a = some d → ∃ v, Atom d v := by
  intro a d h
  unfold gAll at h
  split at h
  · rename_i ds
    cases h1 : blsOf ds with
    | none => rw [h1] at h; cases h
    | some ns => rw [h1] at h; cases h; exact ⟨_, .bl _⟩
  · cases h
theorem cr_anyD (hc : X.calm = true) : CallR X (.builtin "any") (rS X.K gAny) := by
  intro pins s σ H vs us Q I r h
  obtain ⟨ds, d, v, hd, hg, hv, q⟩ := h
  refine cr_any hc pins s σ H vs us Q I r ?_
  unfold gAny at hg
  split at hg
  · rename_i es
    cases h1 : blsOf es with
    | none => rw [h1] at hg; cases hg
    | some ns =>
      rw [h1] at hg; cases hg
      cases hd with
      | cons h t =>
        cases t
        cases h with
        | lst s a =>
          have e := blsOf_inv h1
          subst e
          rw [dpAll_bls a] at s
          exact ⟨_, ns, rfl, s, by rw [atom_bl hv] at q; exact q⟩
  · cases hg
theorem cr_allD (hc : X.calm = true) : CallR X (.builtin "all") (rS X.K gAll) := by
  intro pins s σ H vs us Q I r h
  obtain ⟨ds, d, v, hd, hg, hv, q⟩ := h
  refine cr_all hc pins s σ H vs us Q I r ?_
  unfold gAll at hg
  split at hg
  · rename_i es
    cases h1 : blsOf es with
    | none => rw [h1] at hg; cases hg
    | some ns =>
      rw [h1] at hg; cases hg
      cases hd with
      | cons h t =>
        cases t
        cases h with
        | lst s a =>
          have e := blsOf_inv h1
          subst e
          rw [dpAll_bls a] at s
          exact ⟨_, ns, rfl, s, by rw [atom_bl hv] at q; exact q⟩
  · cases hg
/-! ### list(..), sorted(..), min, max of items -/
theorem cr_listD : CallR X (.type "list") (rL X.K some) := by
  intro pins s σ H vs us Q I r h
  obtain ⟨G, v, ws, ds, es, rfl, k, ⟨a, rfl, sq, dp⟩, e, q⟩ := h
  cases e
  exact call_list_of pins s σ H _ us Q I r ⟨a, ws, rfl, sq, fun l hl => q l ws hl dp⟩
end
end M

set_option Elab.async false
set_option linter.all false
set_option maxRecDepth 100000
/-! Mini5: sorted, min, max of a list; in; is None; index; slices; + and * of lists. -/
namespace M
open PySem PySem.Spec L2

section
variable {K : PySem.W.Frag} {He G0 G H G' H' G1 H1 G2 H2 H0 : Hp} {σ : L2.St} {env : Env} {F : Fp} {r : R} {v : V}
def elemsL (r : R) : Option (List D) := match r.sh, r.d with
  | .s, .list ds => some ds
  | .l .s, .list ds => some ds
  | _, _ => none
def ItemsL (K : PySem.W.Frag) (G H : Hp) (v : V) (us : List V) (ds : List D) : Prop := ∃ a, v = .ref a ∧ SqL K H a us ∧ RpAll K G us ds
theorem elemsL_inv {r : R} {ds : List D} (h : elemsL r = some ds) : (r.sh = .s ∧ r.d = .list ds) ∨ (r.sh = .l .s ∧ r.d = .list ds) := by
  obtain ⟨sh, d, src⟩ := r
  unfold elemsL at h
  dsimp only at h ⊢
  split at h
  · cases h; exact .inl ⟨rfl, rfl⟩
  · cases h; exact .inr ⟨rfl, rfl⟩
  · cases h
theorem Res.itemsL {ds : List D} (k : Le G H) (h : Res K H0 G H F r v) (e : elemsL r = some ds) : ∃ us, ItemsL K G H v us ds := by
  obtain ⟨fp, o, _⟩ := h.own
  rcases elemsL_inv e with ⟨e1, e2⟩ | ⟨e1, e2⟩
  · rw [e1, e2] at o
    cases o with
    | s h => cases h with
      | lst s a => exact ⟨_, _, rfl, sql_mono k s, a⟩
  · rw [e1, e2] at o
    cases o with
    | l e os => exact ⟨_, _, rfl, .of e, os.sall.1⟩
def rLL (K : PySem.W.Frag) (g : List D → Option (List D)) : List V → Hp → VK → Prop := fun vs H Q => ∃ G v us ds es, vs = [v] ∧ Le G H ∧ ItemsL K G H v us ds ∧ g ds = some es ∧ ∀ p ws, H p = none → RpAll K G ws es → Q (.ref p) (upd H p (.lst ws))
def mCLL (g : List D → Option (List D)) (m : Fm) : Fm := fun env => (m env).bind fun r => (elemsL r).bind fun ds => (g ds).bind fun es => some ⟨.l .s, .list es, []⟩
theorem ev_CLL {g : List D → Option (List D)} {m : Fm} {t : TE} (o : EvOk K m t) : EvOk K (mCLL g m) (tCB (rLL K g) (tCons t tNil)) := by
  intro He G0 G H σ env F r Q gd e k
  unfold mCLL at e
  cases h1 : m env with
  | none => rw [h1] at e; cases e
  | some r1 =>
    rw [h1] at e
    cases h2 : elemsL r1 with
    | none => simp [h2] at e
    | some ds =>
      cases h3 : g ds with
      | none => simp [h2, h3] at e
      | some es =>
        simp only [Option.bind_some, h2, h3] at e
        cases e
        refine o He G0 G H σ env F r1 _ gd h1 fun v G1 H1 x1 rr => ?_
        obtain ⟨us, it⟩ := rr.itemsL x1.gh h2
        exact ⟨G1, v, us, ds, es, rfl, x1.gh, it, h3, fun p ws hp hw => k _ G1 _ (x1.new hp) (.newL x1 hp hw)⟩
def rIL (K : PySem.W.Frag) (g : List D → Option D) : List V → Hp → VK → Prop := fun vs H Q => ∃ G v us ds d, vs = [v] ∧ Le G H ∧ ItemsL K G H v us ds ∧ g ds = some d ∧ ∀ w, Rp K G w d → Q w H
def mCIL (g : List D → Option D) (m : Fm) : Fm := fun env => (m env).bind fun r => (elemsL r).bind fun ds => (g ds).bind fun d => some (.sha d)
theorem ev_CIL {g : List D → Option D} {m : Fm} {t : TE} (o : EvOk K m t) : EvOk K (mCIL g m) (tCB (rIL K g) (tCons t tNil)) := by
  intro He G0 G H σ env F r Q gd e k
  unfold mCIL at e
  cases h1 : m env with
  | none => rw [h1] at e; cases e
  | some r1 =>
    rw [h1] at e
    cases h2 : elemsL r1 with
    | none => simp [h2] at e
    | some ds =>
      cases h3 : g ds with
      | none => simp [h2, h3] at e
      | some es =>
        simp only [Option.bind_some, h2, h3] at e
        cases e
        refine o He G0 G H σ env F r1 _ gd h1 fun v G1 H1 x1 rr => ?_
        obtain ⟨us, it⟩ := rr.itemsL x1.gh h2
        exact ⟨G1, v, us, ds, es, rfl, x1.gh, it, h3, fun w hw => k _ G1 H1 x1 (.ofDp hw)⟩
end

section
variable {X : Cx} {e a b c : Expr} {es : List Expr} {m ma mb mc : Fm} {ms : Fms} {pos p : Pos} {x : Str} {bid T : String}
theorem me_callLL {g : List D → Option (List D)} (hc : CallR X (.builtin bid) (rLL X.K g)) (hgl : Gl X x) (hm : X.mg x = none) (hv : bootBuiltins x = some (.builtin bid)) (ha : ME X e m) (hn : x ≠ "__name__" := by decide)
    (hdb : (x == ("__debug__" : Str)) = false := by decide) (he : starEach [e] X.env = (false, eval e X.env) :: starEach [] X.env := by rfl) (hpl : (backTo pos (starEach [] X.env)).any (·.1) = false := by rfl) :
    ME X (.Call (.Name x p) [e] [] pos) (mCLL g m) := by
  obtain ⟨t, pa, o⟩ := ha.ex
  exact ⟨_, pe_callB hc hgl hm hv (pa_cons pa pa_nil he) hn hdb he hpl, ev_CLL o⟩
theorem me_callIL {g : List D → Option D} (hc : CallR X (.builtin bid) (rIL X.K g)) (hgl : Gl X x) (hm : X.mg x = none) (hv : bootBuiltins x = some (.builtin bid)) (ha : ME X e m) (hn : x ≠ "__name__" := by decide)
    (hdb : (x == ("__debug__" : Str)) = false := by decide) (he : starEach [e] X.env = (false, eval e X.env) :: starEach [] X.env := by rfl) (hpl : (backTo pos (starEach [] X.env)).any (·.1) = false := by rfl) :
    ME X (.Call (.Name x p) [e] [] pos) (mCIL g m) := by
  obtain ⟨t, pa, o⟩ := ha.ex
  exact ⟨_, pe_callB hc hgl hm hv (pa_cons pa pa_nil he) hn hdb he hpl, ev_CIL o⟩

/-! ### sorted -/
def isTup1 : D → Bool
  | .tuple (_ :: _) => true
  | _ => false
def noTup : D → Bool
  | .tuple _ => false
  | .none => false
  | _ => true
def sortOk (ds : List D) : Bool := (ds.all fun x => ds.all fun y => PySem.W.alike x y) && (ds.all isTup1 || ds.all noTup) && ds.all fun d => decide (d.depth ≤ 50)
def gSort (ds : List D) : Option (List D) := if sortOk ds && decide (ds.length ≤ sizeLine) then some (ds.mergeSort (PySem.W.dataLe false id)) else none
theorem each_of {K : PySem.W.Frag} {G : Hp} : ∀ {vs : List V} {us : List Value} {ds : List D}, Vals vs us → RpAll K G vs ds → PySem.W.EachIs (fun u d => ∃ w, RelV w u ∧ Rp K G w d) us ds
  | _, _, _, .nil, h => by cases h; exact .nil
  | _, _, _, .cons r t, h => by
    cases h with
    | cons h1 h2 => exact .cons ⟨_, r, h1⟩ (each_of t h2)
theorem of_each {K : PySem.W.Frag} {G : Hp} : ∀ {us : List Value} {ds : List D}, PySem.W.EachIs (fun u d => ∃ w, RelV w u ∧ Rp K G w d) us ds → ∃ vs, Vals vs us ∧ RpAll K G vs ds
  | _, _, .nil => ⟨[], .nil, .nil⟩
  | _, _, .cons ⟨w, r, h⟩ t => by
    obtain ⟨vs, r2, h2⟩ := of_each t
    exact ⟨w :: vs, .cons r r2, .cons h h2⟩
theorem each_imp {α β : Type} {R S : α → β → Prop} : ∀ {as : List α} {bs : List β}, PySem.W.EachIs R as bs → (∀ a b, R a b → S a b) → PySem.W.EachIs S as bs
  | _, _, .nil, _ => .nil
  | _, _, .cons h t, f => .cons (f _ _ h) (each_imp t f)
theorem cr_sortD (hu : X.A.units + 64 < cLine) : CallR X (.builtin "sorted") (rLL X.K gSort) := by
  intro pins s σ H vs us Q I r h
  obtain ⟨G, v, ws, ds, es, rfl, k, ⟨a, rfl, sq, dp⟩, e, q⟩ := h
  unfold gSort at e
  split at e
  · rename_i hc
    cases e
    simp only [sortOk, Bool.and_eq_true, decide_eq_true_eq, Bool.or_eq_true, List.all_eq_true] at hc
    obtain ⟨⟨⟨h1, h2⟩, h3⟩, h4⟩ := hc
    obtain ⟨its, rv, pl, hz⟩ := I.list sq
    rw [Vals.ref1 r]
    refine PySem.W.sorted_data (enc := id) (R := fun u d => ∃ w, RelV w u ∧ Rp X.K G w d) pl.isList (each_of rv dp) (each_imp (each_of rv dp) fun u d ⟨w, rw', hd⟩ => Rp.reads I d w u (dp_mono k hd) rw') ?_ ?_ h4 (fun d hd => ?_) fun out hl he => ?_
    · rw [List.map_id]; exact fun d hd d' hd' => h1 d hd d' hd'
    · rw [List.map_id]
      rcases h2 with h2 | h2
      · refine .inl fun d hd => ?_
        have := h2 d hd
        unfold isTup1 at this
        split at this
        · exact ⟨_, _, rfl⟩
        · cases this
      · refine .inr fun d hd => ⟨fun z => ?_, fun xs z => ?_⟩
        · have := h2 d hd; rw [z] at this; cases this
        · have := h2 d hd; rw [z] at this; cases this
    · have := h3 d hd
      show X.A.units + 2 + d.depth < cLine
      omega
    · obtain ⟨vs', r2, d2⟩ := of_each he
      obtain ⟨ep, he'⟩ := PyProof.Rows.sortedAll_at s.heap its out.toArray
      have hlen : vs'.length ≤ sizeLine := by rw [r2.length, hl]; exact h4
      exact ⟨.ref _, upd H (s.heap.objs.size + 1) (.lst vs'), I.laid (t' := s.toks) (fun _ _ => PyProof.Rows.sortedAll_old) (Nat.le_succ _) ⟨hlen, out, ep, r2, he'⟩, rfl, q _ vs' (I.hok.fresh (Nat.le_succ _)) d2⟩
  · cases e
/-! ### min, max of a list -/
def alikeB (ds : List D) : Bool := (ds.all fun x => ds.all fun y => PySem.W.alike x y) && (ds.all fun d => match d with | .none => false | _ => true) && decide (PyData.depthAll ds ≤ 50)
theorem alikeB_inv {ds : List D} (h : alikeB ds = true) : PySem.W.AlikeAll ds ∧ PyData.depthAll ds ≤ 50 := by
  simp only [alikeB, Bool.and_eq_true, decide_eq_true_eq, List.all_eq_true] at h
  obtain ⟨⟨h1, h2⟩, h3⟩ := h
  refine ⟨⟨fun x hx y hy => h1 x hx y hy, fun x hx z => ?_⟩, h3⟩
  have := h2 x hx
  rw [z] at this
  cases this
def gMin (ds : List D) : Option D := match ds with
  | [] => none
  | x :: xs => if alikeB (x :: xs) then some (PySem.W.minD x xs) else none
def gMax (ds : List D) : Option D := match ds with
  | [] => none
  | x :: xs => if alikeB (x :: xs) then some (PySem.W.maxD x xs) else none
theorem item_of {K : PySem.W.Frag} {G : Hp} {pins : List (Addr × Obj)} {σ : L2.St} {H : Hp} {s : Shared} {X : Cx} (hK : X.K = K) (I : L2.Inv X pins σ H s) (k : Le G H) {vs : List V} {us : List Value} {ds : List D} (r : Vals vs us) (dp : RpAll K G vs ds) {i : Nat} {u : Value} (hu : us[i]? = some u)
    {h' : Heap} (hk : ∀ b o, s.heap.get? b = some o → h'.get? b = some o) {d : D} {as : List Addr} (hd : Reads h' u d as) : ∃ w, RelV w u ∧ Rp K G w d := by
  subst hK
  have hlen := r.length
  have hi : i < us.length := (List.getElem?_eq_some_iff.mp hu).1
  have hl2 := dpAll_len dp
  obtain ⟨w, hw⟩ : ∃ w, vs[i]? = some w := ⟨vs[i]'(by omega), by simp [hlen, hi]⟩
  obtain ⟨u', hu', rw'⟩ := r.get hw
  rw [hu] at hu'; cases hu'
  obtain ⟨d', hd'⟩ : ∃ d', ds[i]? = some d' := ⟨ds[i]'(by omega), by rw [List.getElem?_eq_getElem]⟩
  obtain ⟨w', hw', dpw⟩ := dpAll_get dp hd'
  rw [hw] at hw'; cases hw'
  obtain ⟨bs, rd⟩ := Rp.reads I d' w u (dp_mono k dpw) rw'
  have := SeqAt.plain_unique d' d u bs as (dp_plain dpw) (PyProof.Rows.Reads.keeps hk rd) hd
  subst this
  exact ⟨w, rw', dpw⟩
theorem cr_minD (hc : X.calm = true) (hu : X.A.units + 64 < cLine) : CallR X (.builtin "min") (rIL X.K gMin) := by
  intro pins s σ H vs us Q I r h
  obtain ⟨G, v, ws, ds, d, rfl, k, ⟨a, rfl, sq, dp⟩, e, q⟩ := h
  cases ds with
  | nil => cases e
  | cons x xs =>
    have e' : (if alikeB (x :: xs) then some (PySem.W.minD x xs) else none) = some d := e
    split at e'
    · rename_i ha
      cases e'
      obtain ⟨h1, h2⟩ := alikeB_inv ha
      obtain ⟨its, rv, pl, hz⟩ := I.list sq
      rw [Vals.ref1 r]
      obtain ⟨as, rd⟩ := Rp.readsAll I (x :: xs) ws its (dpAll_mono k dp) rv
      refine PySem.W.min_list_data (I.ok.hd hc) pl.isList (xs := xs) (x := x) (as := as) (by simpa using rd) h1 (by omega) fun i u h' tk bs hi hr hk => ?_
      obtain ⟨w, rw', hw⟩ := item_of rfl I k rv dp (by simpa using hi) hk hr
      exact ⟨w, H, I.kept hk, rw', q w hw⟩
    · cases e'
theorem cr_maxD (hc : X.calm = true) (hu : X.A.units + 64 < cLine) : CallR X (.builtin "max") (rIL X.K gMax) := by
  intro pins s σ H vs us Q I r h
  obtain ⟨G, v, ws, ds, d, rfl, k, ⟨a, rfl, sq, dp⟩, e, q⟩ := h
  cases ds with
  | nil => cases e
  | cons x xs =>
    have e' : (if alikeB (x :: xs) then some (PySem.W.maxD x xs) else none) = some d := e
    split at e'
    · rename_i ha
      cases e'
      obtain ⟨h1, h2⟩ := alikeB_inv ha
      obtain ⟨its, rv, pl, hz⟩ := I.list sq
      rw [Vals.ref1 r]
      obtain ⟨as, rd⟩ := Rp.readsAll I (x :: xs) ws its (dpAll_mono k dp) rv
      refine PySem.W.max_list_data (I.ok.hd hc) pl.isList (xs := xs) (x := x) (as := as) (by simpa using rd) h1 (by omega) fun i u h' tk bs hi hr hk => ?_
      obtain ⟨w, rw', hw⟩ := item_of rfl I k rv dp (by simpa using hi) hk hr
      exact ⟨w, H, I.kept hk, rw', q w hw⟩
    · cases e'
/-! ### in, not in, is None -/
def gIn (a b : D) : Option D := match b with
  | .list ds => if min (PyData.depthAll ds) a.depth ≤ 60 then some (.bool (ds.any fun y => PyData.eqv y a)) else none
  | .tuple ds => if min (PyData.depthAll ds) a.depth ≤ 60 then some (.bool (ds.any fun y => PyData.eqv y a)) else none
  | _ => none
def gNotIn (a b : D) : Option D := match b with
  | .list ds => if min (PyData.depthAll ds) a.depth ≤ 60 then some (.bool (!ds.any fun y => PyData.eqv y a)) else none
  | .tuple ds => if min (PyData.depthAll ds) a.depth ≤ 60 then some (.bool (!ds.any fun y => PyData.eqv y a)) else none
  | _ => none
theorem o2_in {K : PySem.W.Frag} : O2 K (r2S K gIn) (g2S gIn) := o2_S fun a b d h => by
  unfold gIn at h
  split at h
  · split at h
    · cases h; exact ⟨_, .bl _⟩
    · cases h
  · split at h
    · cases h; exact ⟨_, .bl _⟩
    · cases h
  · cases h
theorem o2_notin {K : PySem.W.Frag} : O2 K (r2S K gNotIn) (g2S gNotIn) := o2_S fun a b d h => by
  unfold gNotIn at h
  split at h
  · split at h
    · cases h; exact ⟨_, .bl _⟩
    · cases h
  · split at h
    · cases h; exact ⟨_, .bl _⟩
    · cases h
  · cases h
theorem op_inS (hu : X.A.units + 64 < cLine) : OpR X (compareOp .In) (r2S X.K gIn) := by
  intro pins s σ H x y v u Q I rx ry h
  obtain ⟨d, e, f, w, hd, he, hg, hw, q⟩ := h
  obtain ⟨as, r1⟩ := Rp.reads I d x v hd rx
  obtain ⟨bs, r2⟩ := Rp.reads I e y u he ry
  have hp := dp_plain he
  unfold gIn at hg
  split at hg
  · split at hg
    · rename_i hm
      cases hg
      rw [atom_bl hw] at q
      rw [PyData.plain] at hp
      exact SeqAt.in_list_data r2 r1 hp (dp_plain hd) (by omega) ⟨.bl _, H, I, rfl, q⟩
    · cases hg
  · split at hg
    · rename_i hm
      cases hg
      rw [atom_bl hw] at q
      rw [PyData.plain] at hp
      exact SeqAt.in_tuple_data r2 r1 hp (dp_plain hd) (by omega) ⟨.bl _, H, I, rfl, q⟩
    · cases hg
  · cases hg
theorem op_notinS (hu : X.A.units + 64 < cLine) : OpR X (compareOp .NotIn) (r2S X.K gNotIn) := by
  intro pins s σ H x y v u Q I rx ry h
  obtain ⟨d, e, f, w, hd, he, hg, hw, q⟩ := h
  obtain ⟨as, r1⟩ := Rp.reads I d x v hd rx
  obtain ⟨bs, r2⟩ := Rp.reads I e y u he ry
  have hp := dp_plain he
  unfold gNotIn at hg
  split at hg
  · split at hg
    · rename_i hm
      cases hg
      rw [atom_bl hw] at q
      rw [PyData.plain] at hp
      exact SeqAt.notIn_list_data r2 r1 hp (dp_plain hd) (by omega) ⟨.bl _, H, I, rfl, q⟩
    · cases hg
  · split at hg
    · rename_i hm
      cases hg
      rw [atom_bl hw] at q
      rw [PyData.plain] at hp
      exact SeqAt.notIn_tuple_data r2 r1 hp (dp_plain hd) (by omega) ⟨.bl _, H, I, rfl, q⟩
    · cases hg
  · cases hg
def isNon : D → Bool
  | .none => true
  | _ => false
def mIsN (m : Fm) : Fm := fun env => (m env).bind fun r => some (.sha (.bool (isNon r.d)))
def mNotN (m : Fm) : Fm := fun env => (m env).bind fun r => some (.sha (.bool (!isNon r.d)))
theorem isNon_iff {d : D} : isNon d = true ↔ d = .none := by cases d <;> simp [isNon]
theorem Res.isN {K : PySem.W.Frag} {H0 G H : Hp} {F : Fp} {r : R} {v : V} (h : Res K H0 G H F r v) : decide (v = .non) = isNon r.d := by
  have := h.non
  by_cases e : r.d = .none
  · rw [decide_eq_true (this.mp e), isNon_iff.mpr e]
  · have h2 : isNon r.d = false := by
      cases q : isNon r.d with
      | true => exact absurd (isNon_iff.mp q) e
      | false => rfl
    rw [decide_eq_false (fun z => e (this.mpr z)), h2]
theorem ev_isN {K : PySem.W.Frag} {t : TE} (o : EvOk K ma t) : EvOk K (mIsN ma) (tIsN t) := by
  intro He G0 G H σ env F r Q gd e k
  unfold mIsN at e
  cases h1 : ma env with
  | none => rw [h1] at e; cases e
  | some r1 =>
    rw [h1] at e; cases e
    refine o He G0 G H σ env F r1 _ gd h1 fun v G1 H1 x1 rr => ?_
    rw [rr.isN]
    exact k _ G1 H1 x1 (.ofAtom (.bl _))
theorem ev_notN {K : PySem.W.Frag} {t : TE} (o : EvOk K ma t) : EvOk K (mNotN ma) (tNotN t) := by
  intro He G0 G H σ env F r Q gd e k
  unfold mNotN at e
  cases h1 : ma env with
  | none => rw [h1] at e; cases e
  | some r1 =>
    rw [h1] at e; cases e
    refine o He G0 G H σ env F r1 _ gd h1 fun v G1 H1 x1 rr => ?_
    rw [rr.isN]
    exact k _ G1 H1 x1 (.ofAtom (.bl _))
theorem me_isN {j pos'} (ha : ME X a ma) : ME X (.Compare a [.Is] [.Constant .none j pos'] pos) (mIsN ma) := by
  obtain ⟨t, p, o⟩ := ha.ex
  exact ⟨_, pe_cmp (pc_isN p) rfl, ev_isN o⟩
theorem me_notN {j pos'} (ha : ME X a ma) : ME X (.Compare a [.IsNot] [.Constant .none j pos'] pos) (mNotN ma) := by
  obtain ⟨t, p, o⟩ := ha.ex
  exact ⟨_, pe_cmp (pc_notN p) rfl, ev_notN o⟩
theorem mt_isN {j pos'} (ha : ME X a ma) : MT X (.Compare a [.Is] [.Constant .none j pos'] pos) (mTv (mIsN ma)) := by
  obtain ⟨t, p, o⟩ := ha.ex
  exact ⟨_, pt_cmp (pc_isN p) rfl, tv_of (ev_isN o)⟩
theorem mt_notN {j pos'} (ha : ME X a ma) : MT X (.Compare a [.IsNot] [.Constant .none j pos'] pos) (mTv (mNotN ma)) := by
  obtain ⟨t, p, o⟩ := ha.ex
  exact ⟨_, pt_cmp (pc_notN p) rfl, tv_of (ev_notN o)⟩
end
end M

set_option Elab.async false
set_option linter.all false
set_option maxRecDepth 100000
/-! Mini6: index, slices, + and *, displays, calls of own defs. -/
namespace M
open PySem PySem.Spec L2

section
variable {K : PySem.W.Frag} {He G0 G H G' H' G1 H1 G2 H2 H0 : Hp} {σ : L2.St} {env : Env} {F : Fp} {r : R} {v : V}
/-! ### index -/
def mkR (e : Sh) (d : D) (src : List Nat) : R := match e with
  | .s => ⟨.s, d, []⟩
  | e => ⟨e, d, src⟩
theorem mkR_eq (e : Sh) (d : D) (src : List Nat) : mkR e d src = ⟨e, d, match e with | .s => [] | _ => src⟩ := by cases e <;> rfl
def gIx (a b : R) : Option R := match b.d with
  | .int i => match a.sh, a.d with
    | .s, .list ds => (atI ds i).map fun d => ⟨.s, d, []⟩
    | .s, .tuple ds => (atI ds i).map fun d => ⟨.s, d, []⟩
    | .l e, .list ds => (atI ds i).map fun d => mkR e d a.src
    | .t es, .tuple ds => (atI es i).bind fun e => (atI ds i).map fun d => mkR e d a.src
    | .s, .str z => if z.length ≤ sizeLine then (atI z.cps.toList i).map fun c => ⟨.s, .str ⟨#[c]⟩, []⟩ else none
    | _, _ => none
  | _ => none
theorem atI_inv {α : Type} {xs : List α} {i : Int} {x : α} (h : atI xs i = some x) : ∃ j, ixN xs.length i = some j ∧ xs[j]? = some x := by
  unfold atI at h
  cases e : ixN xs.length i with
  | none => rw [e] at h; cases h
  | some j => rw [e] at h; exact ⟨j, rfl, h⟩
theorem atI_of {α : Type} {xs : List α} {n : Nat} {i : Int} {j : Nat} {x : α} (hn : xs.length = n) (h : ixN n i = some j) (hx : xs[j]? = some x) : atI xs i = some x := by
  unfold atI
  rw [hn, h]
  exact hx
theorem Owns.get : ∀ {es : List Sh} {vs : List V} {ds : List D} {fp : List Addr} {i : Nat} {d : D}, Owns K G H es vs ds fp → ds[i]? = some d →
    ∃ e v pre f post, es[i]? = some e ∧ vs[i]? = some v ∧ Own K G H e v d f ∧ fp = pre ++ f ++ post
  | _, _, _, _, _, _, .nil, e => by simp at e
  | _, _, _, _, 0, _, .cons (fs := fs) h _, e => by
    simp at e; subst e
    exact ⟨_, _, [], _, fs, rfl, rfl, h, by simp⟩
  | _, _, _, _, i + 1, _, .cons (f := f) _ t, e => by
    obtain ⟨e', v, pre, f', post, h1, h2, h3, h4⟩ := Owns.get (i := i) t (by simpa using e)
    exact ⟨e', v, f ++ pre, f', post, by simpa using h1, by simpa using h2, h3, by rw [h4]; simp [List.append_assoc]⟩
theorem Owns.lens {es : List Sh} {vs : List V} {ds : List D} {fp : List Addr} (h : Owns K G H es vs ds fp) : vs.length = ds.length := h.len.2.symm
theorem res_item {e : Sh} {d : D} {src : List Nat} {fp pre f post : List Addr} (o : Own K G H e v d f) (hf : fp = pre ++ f ++ post) (nd : fp.Nodup) (hp : ∀ p ∈ fp, (H0 p = none ∧ G p = none) ∨ ∃ i ∈ src, p ∈ F i) : Res K H0 G H F (mkR e d src) v := by
  subst hf
  have n2 : f.Nodup := ((List.nodup_append.mp (List.nodup_append.mp nd).1).2).1
  cases e with
  | s => exact .ofDp o.sinv.1
  | l e => exact ⟨f, o, n2, fun p z => hp p (by simp [z])⟩
  | t es => exact ⟨f, o, n2, fun p z => hp p (by simp [z])⟩
theorem o2_ix : O2 K (rIx K) gIx := by
  intro H0 G H F x y a b c Q G00 k ra rb e q
  unfold gIx at e
  split at e
  · rename_i i hb
    have ey := rb.int hb
    subst ey
    obtain ⟨fp, o, nd, hp⟩ := ra.own
    obtain ⟨sh, d, src⟩ := a
    dsimp only at e o hp
    split at e
    · rename_i ds
      cases h : atI ds i with
      | none => rw [h] at e; cases e
      | some w =>
        rw [h] at e; cases e
        obtain ⟨hw, _⟩ := o.sinv
        cases hw with
        | lst s al =>
          obtain ⟨j, hj, hx⟩ := atI_inv h
          obtain ⟨u, hu, hd⟩ := dpAll_get al hx
          exact .inl ⟨_, _, i, u, rfl, rfl, sql_mono k.gh s, atI_of (dpAll_len al) hj hu, q u G H k (Ext.refl k.gh) (.ofDp hd)⟩
    · rename_i ds
      cases h : atI ds i with
      | none => rw [h] at e; cases e
      | some w =>
        rw [h] at e; cases e
        obtain ⟨hw, _⟩ := o.sinv
        cases hw with
        | tup s al =>
          obtain ⟨j, hj, hx⟩ := atI_inv h
          obtain ⟨u, hu, hd⟩ := dpAll_get al hx
          exact .inr (.inl ⟨_, _, i, u, rfl, rfl, (s.mono k.gh).sq, atI_of (dpAll_len al) hj hu, q u G H k (Ext.refl k.gh) (.ofDp hd)⟩)
    · rename_i e' ds
      cases h : atI ds i with
      | none => rw [h] at e; cases e
      | some w =>
        rw [h] at e; cases e
        cases o with
        | l hH os =>
          rename_i p0 vs0 fp0
          obtain ⟨j, hj, hx⟩ := atI_inv h
          obtain ⟨e2, u, pre, f, post, he, hu, ho, hf⟩ := os.get hx
          have : e2 = e' := by
            rw [List.getElem?_replicate] at he
            split at he
            · exact (Option.some.inj he).symm
            · cases he
          subst this
          refine .inl ⟨_, _, i, u, rfl, rfl, .of hH, atI_of os.lens hj hu, q u G H k (Ext.refl k.gh) ?_⟩
          exact res_item ho (fp := p0 :: fp0) (pre := p0 :: pre) (post := post) (by rw [hf]; simp) nd hp
    · rename_i es ds
      cases h0 : atI es i with
      | none => rw [h0] at e; cases e
      | some e' =>
        rw [h0] at e
        cases h : atI ds i with
        | none => simp [h] at e
        | some w =>
          simp [h] at e; cases e
          cases o with
          | t hH os =>
            obtain ⟨j, hj, hx⟩ := atI_inv h
            obtain ⟨e2, u, pre, f, post, he, hu, ho, hf⟩ := os.get hx
            have : e2 = e' := by
              have : es.length = ds.length := by rw [os.len.1, os.len.2]
              unfold atI at h0
              rw [this, hj] at h0
              have h0 : es[j]? = some e' := h0
              rw [he] at h0
              exact Option.some.inj h0
            subst this
            refine .inr (.inl ⟨_, _, i, u, rfl, rfl, .of hH, atI_of os.lens hj hu, q u G H k (Ext.refl k.gh) ?_⟩)
            exact res_item ho hf nd hp
    · rename_i z
      split at e
      · rename_i hz
        cases h : atI z.cps.toList i with
        | none => rw [h] at e; cases e
        | some w =>
          rw [h] at e; cases e
          obtain ⟨hw, _⟩ := o.sinv
          cases hw
          exact .inr (.inr ⟨z, i, w, rfl, rfl, hz, h, q _ G H k (Ext.refl k.gh) (.ofAtom (.str _))⟩)
      · cases e
    · cases e
  · cases e
end

section
variable {X : Cx} {e a b c : Expr} {es : List Expr} {m ma mb mc : Fm} {ms : Fms} {pos p : Pos} {x : Str} {bid T : String}
theorem ixr_ix : IxR X (rIx X.K) := by
  have h := (ix_list (X := X)).or ((ix_tup (X := X)).or ix_str)
  exact h
theorem me_ix (ha : ME X a ma) (hb : ME X b mb) (hs : PlainIx b) : ME X (.Subscript a b pos) (m2 gIx ma mb) := by
  obtain ⟨ta, pa, oa⟩ := ha.ex
  obtain ⟨tb, pb, ob⟩ := hb.ex
  exact ⟨_, pe_ix ixr_ix pa pb hs, ev_m2 o2_ix oa ob⟩

/-! ### slices -/
abbrev Fo := Env → Option (Option Int)
def OvOk (K : PySem.W.Frag) (m : Fo) (t : TO) : Prop :=
  ∀ (He G0 G H : Hp) (σ : L2.St) (env : Env) (F : Fp) (b : Option Int) (Q : Option Int → Hp → Prop), Good K He G0 G H σ env F → m env = some b → (∀ G' H', Ext G H G' H' → Q b H') → t σ H Q
structure MO (X : Cx) (e : Option Expr) (m : Fo) : Prop where
  ex : ∃ t, PO X e t ∧ OvOk X.K m t
def oNo : Fo := fun _ => some none
def asI (r : R) : Option Int := match r.d with
  | .int i => some i
  | _ => none
theorem asI_inv {r : R} {i : Int} (h : asI r = some i) : r.d = .int i := by
  unfold asI at h
  split at h
  · rename_i e; cases h; exact e
  · cases h
def oSo (m : Fm) : Fo := fun env => (m env).bind fun r => (asI r).map some
theorem mo_none : MO X none oNo := by
  refine ⟨_, po_none, ?_⟩
  intro He G0 G H σ env F b Q g e k
  cases e
  exact k G H (Ext.refl g.gh)
theorem mo_some (h : ME X e m) : MO X (some e) (oSo m) := by
  obtain ⟨t, p, o⟩ := h.ex
  refine ⟨_, po_some p, ?_⟩
  intro He G0 G H σ env F b Q g e k
  unfold oSo at e
  cases h1 : m env with
  | none => rw [h1] at e; cases e
  | some r =>
    rw [h1] at e
    cases h2 : asI r with
    | none => simp [h2] at e
    | some i =>
      simp [h2] at e; subst e
      exact o He G0 G H σ env F r _ g h1 fun v G' H' x rr => ⟨i, rr.int (asI_inv h2), k G' H' x⟩
def cutD (ds : List D) (lo hi : Option Int) : List D := (ds.drop (HT.sIx ds.length 0 lo)).take (HT.sIx ds.length ds.length hi - HT.sIx ds.length 0 lo)
def gSl (r : R) (lo hi : Option Int) : Option R := match elemsL r with
  | some ds => some ⟨.l .s, .list (cutD ds lo hi), []⟩
  | none => match r.sh, r.d with
    | _, .str z => if z.length ≤ sizeLine then some ⟨.s, .str (cutS z lo hi), []⟩ else none
    | .s, .tuple ds => if HT.sIx ds.length 0 lo = 0 ∧ HT.sIx ds.length ds.length hi = ds.length then none else some ⟨.s, .tuple (cutD ds lo hi), []⟩
    | _, _ => none
def mSl (m : Fm) (lo hi : Fo) : Fm := fun env => (m env).bind fun r => (lo env).bind fun l => (hi env).bind fun h => gSl r l h
theorem me_sl {lo hi : Option Expr} {ml mh : Fo} {p2 : Pos} (he : ME X e m) (hl : MO X lo ml) (hh : MO X hi mh) : ME X (.Subscript e (.Slice lo hi none p2) pos) (mSl m ml mh) := by
  obtain ⟨t, pe, o⟩ := he.ex
  obtain ⟨tl, pl, ol⟩ := hl.ex
  obtain ⟨th, ph, oh⟩ := hh.ex
  refine ⟨_, pe_slice (SlR.or sl_list (SlR.or sl_str sl_tup)) pe pl ph, ?_⟩
  intro He G0 G H σ env F r Q g e k
  unfold mSl at e
  cases h1 : m env with
  | none => rw [h1] at e; cases e
  | some r1 =>
    cases h2 : ml env with
    | none => simp [h1, h2] at e
    | some l =>
      cases h3 : mh env with
      | none => simp [h1, h2, h3] at e
      | some u =>
        simp only [h1, h2, h3, Option.bind_some] at e
        refine o He G0 G H σ env F r1 _ g h1 fun v G1 H1 x1 rr => ?_
        refine ol He G0 G1 H1 σ env F l _ (g.ext x1) h2 fun G2 H2 x2 => ?_
        refine oh He G0 G2 H2 σ env F u _ ((g.ext x1).ext x2) h3 fun G3 H3 x3 => ?_
        have x13 := x1.trans (x2.trans x3)
        have rr3 := rr.next g x1 (x2.trans x3)
        unfold gSl at e
        cases h4 : elemsL r1 with
        | some ds =>
          rw [h4] at e; cases e
          obtain ⟨us, a, rfl, hr, al⟩ := rr3.itemsL x13.gh h4
          refine .inl ⟨a, us, rfl, hr, fun p hp => k _ G3 _ (x13.new hp) (.newL x13 hp ?_)⟩
          unfold cutV cutD
          rw [dpAll_len al]
          exact dpAll_take _ (dpAll_drop _ al)
        | none =>
          rw [h4] at e
          dsimp only at e
          split at e
          · rename_i z hz
            split at e
            · rename_i hl
              cases e
              exact .inr (.inl ⟨z, rr3.str hz, hl, k _ G3 H3 x13 (.ofAtom (.str _))⟩)
            · cases e
          · rename_i ds hsh hz
            split at e
            · cases e
            · rename_i hw
              cases e
              have hd := rr3.sdp hsh
              rw [hz] at hd
              cases hd with
              | tup s al =>
                rename_i a0 us
                refine .inr (.inr ⟨_, _, rfl, (s.mono x13.gh).sq, by rw [dpAll_len al]; exact hw, fun p hp => ?_⟩)
                have al2 : RpAll X.K G3 (cutV us l u) (cutD ds l u) := by
                  unfold cutV cutD
                  rw [dpAll_len al]
                  exact dpAll_take _ (dpAll_drop _ al)
                obtain ⟨G4, x4, r4⟩ := Res.newT (K := X.K) (F := F) x13 hp al2
                exact k _ G4 _ x4 r4
          · cases e

/-! ### lists put together, repeated; texts put together -/
def rCat2 (K : PySem.W.Frag) : R2 := fun x y H Q => ∃ l b xs zs, x = .ref l ∧ y = .ref b ∧ SqL K H l xs ∧ SqL K H b zs ∧ xs.length + zs.length ≤ sizeLine ∧ ∀ p, H p = none → Q (.ref p) (upd H p (.lst (xs ++ zs)))
theorem op_cat2 : OpR X (binaryOp .Add) (rCat2 X.K) := by
  intro pins s σ H x y v u Q I rx ry h
  obtain ⟨l, b, xs, zs, rfl, rfl, hH, hB, hz, q⟩ := h
  cases rx
  cases ry
  obtain ⟨its, r, ⟨⟨cls, dd, data, sl⟩, n, ho, hc, _, hd⟩, z⟩ := I.list hH
  obtain ⟨its2, r2, ⟨⟨cls2, dd2, data2, sl2⟩, n2, ho2, hc2, _, hd2⟩, z2⟩ := I.list hB
  simp only at hc hd hc2 hd2
  subst hc hd hc2 hd2
  have hl := r.length
  have hl2 := r2.length
  have ea : its.toArray ++ its2.toArray = (its ++ its2).toArray := by simp
  refine PySem.concat_meets ⟨_, ho, rfl⟩ ⟨_, ho2, rfl⟩ PySem.noFill_list_add PySem.seq_list_add PySem.F.slot_list_add PySem.F.entry_list_add (PySem.F.args_list_add_2 _ _) (PyProof.Rows.list_addW l b its.toArray its2.toArray n n2 dd dd2 sl sl2 (by simp; omega)) ⟨ho, ho2, ?_⟩
  rw [ea]
  exact ⟨.ref _, _, I.lnew (t' := s.toks) (r.append r2) (by rw [List.length_append]; omega), rfl, q _ I.fresh⟩
def gCat (a b : R) : Option R := (elemsL a).bind fun xs => (elemsL b).bind fun ys => if xs.length + ys.length ≤ sizeLine then some ⟨.l .s, .list (xs ++ ys), []⟩ else none
theorem o2_cat {K : PySem.W.Frag} : O2 K (rCat2 K) gCat := by
  intro H0 G H F x y a b c Q G00 k ra rb e q
  unfold gCat at e
  cases h1 : elemsL a with
  | none => rw [h1] at e; cases e
  | some xs =>
    cases h2 : elemsL b with
    | none => simp [h1, h2] at e
    | some ys =>
      simp only [h1, h2, Option.bind_some] at e
      split at e
      · rename_i hz
        cases e
        obtain ⟨us, l, rfl, h3, a3⟩ := ra.itemsL k.gh h1
        obtain ⟨ws, l2, rfl, h4, a4⟩ := rb.itemsL k.gh h2
        refine ⟨l, l2, us, ws, rfl, rfl, h3, h4, by rw [dpAll_len a3, dpAll_len a4]; exact hz, fun p hp => q _ G _ (k.new hp) ((Ext.refl k.gh).new hp) ?_⟩
        exact (Res.newL (Ext.refl k.gh) hp (dpAll_append a3 a4)).back k.h
      · cases e
def gCatS (a b : R) : Option R := match a.d, b.d with
  | .str x, .str y => if x.length + y.length ≤ sizeLine then some ⟨.s, .str (x ++ y), []⟩ else none
  | _, _ => none
abbrev rCatS : R2 := fun x y H Q => ∃ i j, x = .str i ∧ y = .str j ∧ i.length + j.length ≤ sizeLine ∧ Q (.str (i ++ j)) H
theorem o2_catS {K : PySem.W.Frag} : O2 K rCatS gCatS := by
  intro H0 G H F x y a b c Q G00 k ra rb e q
  unfold gCatS at e
  split at e
  · rename_i i j h1 h2
    split at e
    · rename_i hz
      cases e
      exact ⟨i, j, ra.str h1, rb.str h2, hz, q _ G H k (Ext.refl k.gh) (.ofAtom (.str _))⟩
    · cases e
  · cases e
def gCatT (a b : R) : Option R := match a.sh, a.d, b.sh, b.d with
  | .s, .tuple xs, .s, .tuple ys => if !xs.isEmpty && decide (xs.length + ys.length ≤ sizeLine) then some ⟨.s, .tuple (xs ++ ys), []⟩ else none
  | _, _, _, _ => none
theorem o2_catT {K : PySem.W.Frag} : O2 K (rCatT K) gCatT := by
  intro H0 G H F x y a b c Q G00 k ra rb e q
  unfold gCatT at e
  split at e
  · rename_i xs ys h1 h2 h3 h4
    split at e
    · rename_i hc
      cases e
      rw [Bool.and_eq_true] at hc
      have h5 := ra.sdp h1
      have h6 := rb.sdp h3
      rw [h2] at h5
      rw [h4] at h6
      cases h5 with
      | tup s al =>
        cases h6 with
        | tup s2 al2 =>
          refine ⟨_, _, _, _, rfl, rfl, (s.mono k.gh).sq, (s2.mono k.gh).sq, fun z => ?_, by rw [dpAll_len al, dpAll_len al2]; exact of_decide_eq_true hc.2, fun z => ?_, fun z p hp => ?_⟩
          · subst z
            cases al
            simp at hc
          · subst z
            cases al2
            rw [List.append_nil] at q
            exact q _ G H k (Ext.refl k.gh) (.ofDp (.tup s al))
          · obtain ⟨G4, x4, r4⟩ := Res.newT (K := K) (F := F) (Ext.refl k.gh) hp (dpAll_append al al2)
            exact q _ G4 _ (k.trans x4) x4 (r4.back k.h)
    · cases e
  · cases e
/-- a + b of ints, lists, texts, tuples -/
def gAdd : R → R → Option R := g2or (gI (fun _ _ => true) fun i j => .int (i + j)) (g2or gCat (g2or gCatS gCatT))
theorem me_add (ha : ME X a ma) (hb : ME X b mb) : ME X (.BinOp a .Add b pos) (m2 gAdd ma mb) :=
  me_bin (op_add.or (op_cat2.or (op_add_str.or op_catT))) ((o2_int0 fun _ _ => .int _).or (o2_cat.or (o2_catS.or o2_catT))) ha hb
def gSub : R → R → Option R := gI (fun _ _ => true) fun i j => .int (i - j)
theorem me_sub (ha : ME X a ma) (hb : ME X b mb) : ME X (.BinOp a .Sub b pos) (m2 gSub ma mb) := me_bin op_sub (o2_int0 fun _ _ => .int _) ha hb
def gRep (a b : R) : Option R := match a.sh, a.d, b.d with
  | .l .s, .list ds, .int k => if decide (-(2 ^ 63) ≤ k) && decide (k < 2 ^ 63) && decide (ds.length * k.toNat ≤ sizeLine) then some ⟨.l .s, .list (List.replicate k.toNat ds).flatten, []⟩ else none
  | _, _, _ => none
theorem dpAll_rep {K : PySem.W.Frag} {G : Hp} {vs : List V} {ds : List D} (h : RpAll K G vs ds) : ∀ n : Nat, RpAll K G (List.replicate n vs).flatten (List.replicate n ds).flatten
  | 0 => .nil
  | n + 1 => by
    rw [List.replicate_succ, List.replicate_succ, List.flatten_cons, List.flatten_cons]
    exact dpAll_append h (dpAll_rep h n)
theorem o2_rep {K : PySem.W.Frag} : O2 K rRep gRep := by
  intro H0 G H F x y a b c Q G00 k ra rb e q
  obtain ⟨sh, d, src⟩ := a
  unfold gRep at e
  dsimp only at e
  split at e
  · rename_i ds i h1
    split at e
    · rename_i hc
      cases e
      simp only [Bool.and_eq_true, decide_eq_true_eq] at hc
      obtain ⟨fp, o, nd, hp⟩ := ra.own
      cases o with
      | l hH os =>
        obtain ⟨al, _⟩ := os.sall
        refine ⟨_, i, _, rfl, rb.int h1, hH, hc.1.1, hc.1.2, by rw [dpAll_len al]; exact hc.2, fun p hp => q _ G _ (k.new hp) ((Ext.refl k.gh).new hp) ?_⟩
        exact (Res.newL (Ext.refl k.gh) hp (dpAll_rep al _)).back k.h
    · cases e
  · cases e
/-- the product's check: one factor within 64 bits -/
def okMul (i j : Int) : Bool := (decide (-(2 ^ 64) < i) && decide (i < 2 ^ 64)) || (decide (-(2 ^ 64) < j) && decide (j < 2 ^ 64))
def gMulI : R → R → Option R := gI okMul fun i j => .int (i * j)
theorem o2_mul {K : PySem.W.Frag} : O2 K (rI CMul fun i j => .int (i * j)) gMulI := o2_int (fun i j h => by
  simp only [okMul, Bool.or_eq_true, Bool.and_eq_true, decide_eq_true_eq] at h
  exact h) fun _ _ => .int _
def gMul : R → R → Option R := g2or gMulI gRep
theorem me_mul (ha : ME X a ma) (hb : ME X b mb) : ME X (.BinOp a .Mult b pos) (m2 gMul ma mb) := me_bin (op_mul.or op_rep) (o2_mul.or o2_rep) ha hb
def okDiv (_ j : Int) : Bool := decide (j ≠ 0) && decide (j.natAbs < 1073741824)
def gDiv : R → R → Option R := gI okDiv fun i j => .int (i.fdiv j)
theorem me_div (ha : ME X a ma) (hb : ME X b mb) : ME X (.BinOp a .FloorDiv b pos) (m2 gDiv ma mb) := me_bin op_fdivN (o2_int (fun i j h => by
  simp only [okDiv, Bool.and_eq_true, decide_eq_true_eq] at h
  exact h) fun _ _ => .int _) ha hb
def gMod : R → R → Option R := gI (fun _ j => decide (j ≠ 0)) fun i j => .int (i.fmod j)
theorem me_mod (ha : ME X a ma) (hb : ME X b mb) : ME X (.BinOp a .Mod b pos) (m2 gMod ma mb) := me_bin op_modN (o2_int (fun i j h => of_decide_eq_true h) fun _ _ => .int _) ha hb
def okPow (i j : Int) : Bool := decide (0 ≤ j) && decide (j ≤ 1000000) && decide (i.natAbs < 2 ^ 64)
def gPow : R → R → Option R := gI okPow fun i j => .int (i ^ j.toNat)
theorem me_pow (ha : ME X a ma) (hb : ME X b mb) : ME X (.BinOp a .Pow b pos) (m2 gPow ma mb) := me_bin op_pow (o2_int (fun i j h => by
  simp only [okPow, Bool.and_eq_true, decide_eq_true_eq] at h
  exact ⟨h.1.1, h.1.2, h.2⟩) fun _ _ => .int _) ha hb
def gNeg (r : R) : Option R := match r.d with
  | .int i => some ⟨.s, .int (-i), []⟩
  | _ => none
def m1 (g : R → Option R) (m : Fm) : Fm := fun env => (m env).bind g
theorem me_neg (ha : ME X a ma) : ME X (.UnaryOp .USub a pos) (m1 gNeg ma) := by
  obtain ⟨t, p, o⟩ := ha.ex
  refine ⟨_, pe_un un_neg p, ?_⟩
  intro He G0 G H σ env F r Q g e k
  unfold m1 at e
  cases h1 : ma env with
  | none => rw [h1] at e; cases e
  | some r1 =>
    rw [h1] at e
    have e : gNeg r1 = some r := e
    unfold gNeg at e
    split at e
    · rename_i i hi
      cases e
      exact o He G0 G H σ env F r1 _ g h1 fun v G1 H1 x1 rr => ⟨i, rr.int hi, k _ G1 H1 x1 (.ofAtom (.int _))⟩
    · cases e
/-! ### comparisons of order -/
def gLt : R → R → Option R := gI (fun _ _ => true) fun i j => .bool (decide (i < j))
def gLe : R → R → Option R := gI (fun _ _ => true) fun i j => .bool (decide (i ≤ j))
def gGt : R → R → Option R := gI (fun _ _ => true) fun i j => .bool (decide (j < i))
def gGe : R → R → Option R := gI (fun _ _ => true) fun i j => .bool (decide (j ≤ i))
theorem o2_lt {K : PySem.W.Frag} : O2 K (rI0 fun i j => .bl (decide (i < j))) gLt := o2_int0 fun _ _ => .bl _
theorem o2_le {K : PySem.W.Frag} : O2 K (rI0 fun i j => .bl (decide (i ≤ j))) gLe := o2_int0 fun _ _ => .bl _
theorem o2_gt {K : PySem.W.Frag} : O2 K (rI0 fun i j => .bl (decide (j < i))) gGt := o2_int0 fun _ _ => .bl _
theorem o2_ge {K : PySem.W.Frag} : O2 K (rI0 fun i j => .bl (decide (j ≤ i))) gGe := o2_int0 fun _ _ => .bl _
/-- a < b < c -/
def m3 (f g : R → R → Option R) (ma mb mc : Fm) : Fm := fun env => (ma env).bind fun a => (mb env).bind fun b => (f a b).bind fun x => (asB x).bind fun k => if k then (mc env).bind fun c => g b c else some (.sha (.bool false))

/-! ### displays -/
def mTup (ms : Fms) : Fm := fun env => (ms env).bind fun rs => if (rs.flatMap R.src).isEmpty then some ⟨.s, .tuple (rs.map R.d), []⟩ else none
def mLst (ms : Fms) : Fm := fun env => (ms env).bind fun rs => if (rs.flatMap R.src).isEmpty then some ⟨.l .s, .list (rs.map R.d), []⟩ else none
/-- a tuple that keeps what is owned -/
def mTupO (ms : Fms) : Fm := fun env => (ms env).bind fun rs => if decide ((rs.flatMap R.src).Nodup) then some ⟨.t (rs.map R.sh), .tuple (rs.map R.d), rs.flatMap R.src⟩ else none
/-- a list that keeps its owned items, all of the shape e -/
def mLstO (e : Sh) (ms : Fms) : Fm := fun env => (ms env).bind fun rs => if decide ((rs.flatMap R.src).Nodup) && rs.all (fun r => Sh.beq r.sh e) then some ⟨.l e, .list (rs.map R.d), rs.flatMap R.src⟩ else none
theorem av_len {K : PySem.W.Frag} {ms : Fms} {t : TA} (n : Nat) (o : AvOk K ms t) (hn : ∀ env rs, ms env = some rs → rs.length = n) : True := trivial
/-- the number of arguments that is always given -/
def Len (ms : Fms) (n : Nat) : Prop := ∀ env rs, ms env = some rs → rs.length = n
theorem len_nil : Len mNil 0 := fun env rs h => by cases h; rfl
theorem len_cons {n : Nat} (h : Len ms n) : Len (mCons m ms) (n + 1) := fun env rs e => by
  unfold mCons at e
  cases h1 : m env with
  | none => rw [h1] at e; cases e
  | some x =>
    cases h2 : ms env with
    | none => simp [h1, h2] at e
    | some xs => simp [h1, h2] at e; subst e; rw [List.length_cons, h env xs h2]
theorem small_le {n : Nat} (h : n ≤ 1000) : n ≤ sizeLine := by rw [sizeLine_eq]; omega
theorem me_tup {x1} {n : Nat} (h : MA X es ms) (hl : Len ms n) (hn : n ≤ 1000 := by decide) : ME X (.Tuple es x1 pos) (mTup ms) := by
  obtain ⟨t, p, o⟩ := h.ex
  refine ⟨_, pe_tup p, ?_⟩
  intro He G0 G H σ env F r Q g e k
  unfold mTup at e
  cases h1 : ms env with
  | none => rw [h1] at e; cases e
  | some rs =>
    rw [h1] at e
    simp only [Option.bind_some] at e
    split at e
    · rename_i hs
      cases e
      refine o He G0 G H σ env F rs _ g h1 fun vs G1 H1 x1 rr => ⟨by rw [rr.len, hl env rs h1]; exact small_le hn, fun p hp => ?_⟩
      obtain ⟨G2, x2, _, al⟩ := rr.freeze x1 (List.isEmpty_iff.mp hs)
      obtain ⟨G3, x3, r3⟩ := Res.newT (K := X.K) (F := F) x2 hp al
      exact k _ G3 _ x3 r3
    · cases e
theorem me_lst {n : Nat} (h : MA X es ms) (hl : Len ms n) (hn : n ≤ 1000 := by decide) : ME X (.List es pos) (mLst ms) := by
  obtain ⟨t, p, o⟩ := h.ex
  refine ⟨_, pe_lst p, ?_⟩
  intro He G0 G H σ env F r Q g e k
  unfold mLst at e
  cases h1 : ms env with
  | none => rw [h1] at e; cases e
  | some rs =>
    rw [h1] at e
    simp only [Option.bind_some] at e
    split at e
    · rename_i hs
      cases e
      refine o He G0 G H σ env F rs _ g h1 fun vs G1 H1 x1 rr => ⟨by rw [rr.len, hl env rs h1]; exact small_le hn, fun p hp => ?_⟩
      obtain ⟨G2, x2, _, al⟩ := rr.freeze x1 (List.isEmpty_iff.mp hs)
      exact k _ G2 _ (x2.new hp) (.newL x2 hp al)
    · cases e
theorem Owns.new {K : PySem.W.Frag} {G H : Hp} {es : List Sh} {vs : List V} {ds : List D} {fp : List Addr} {p : Addr} {o : HO} (h : Owns K G H es vs ds fp) (hp : H p = none) : Owns K G (upd H p o) es vs ds fp :=
  h.mono Le.rfl (le_upd hp).tk fun q z => by
    obtain ⟨xs, hx⟩ := h.inH q z
    rw [upd_ne (ne_of_none hx hp)]
theorem me_tupO {x1} {n : Nat} (h : MA X es ms) (hl : Len ms n) (hn : n ≤ 1000 := by decide) : ME X (.Tuple es x1 pos) (mTupO ms) := by
  obtain ⟨t, p, o⟩ := h.ex
  refine ⟨_, pe_tup p, ?_⟩
  intro He G0 G H σ env F r Q g e k
  unfold mTupO at e
  cases h1 : ms env with
  | none => rw [h1] at e; cases e
  | some rs =>
    rw [h1] at e
    simp only [Option.bind_some] at e
    split at e
    · rename_i hs
      cases e
      refine o He G0 G H σ env F rs _ g h1 fun vs G1 H1 x1 rr => ⟨by rw [rr.len, hl env rs h1]; exact small_le hn, fun p hp => ?_⟩
      obtain ⟨fp, os, hf, nd⟩ := rr.own
      exact k _ G1 _ (x1.new hp) ⟨fp, .t upd_same (os.new hp), nd (of_decide_eq_true hs), hf⟩
    · cases e
theorem all_rep {e : Sh} : ∀ {rs : List R}, rs.all (fun r => Sh.beq r.sh e) = true → rs.map R.sh = List.replicate rs.length e
  | [], _ => rfl
  | r :: rs, h => by
    rw [List.all_cons, Bool.and_eq_true] at h
    rw [List.map_cons, all_rep h.2, List.length_cons, List.replicate_succ, Sh.beq_eq h.1]
theorem me_lstO {e : Sh} {n : Nat} (h : MA X es ms) (hl : Len ms n) (hn : n ≤ 1000 := by decide) : ME X (.List es pos) (mLstO e ms) := by
  obtain ⟨t, p, o⟩ := h.ex
  refine ⟨_, pe_lst p, ?_⟩
  intro He G0 G H σ env F r Q g e' k
  unfold mLstO at e'
  cases h1 : ms env with
  | none => rw [h1] at e'; cases e'
  | some rs =>
    rw [h1] at e'
    simp only [Option.bind_some] at e'
    split at e'
    · rename_i hs
      cases e'
      rw [Bool.and_eq_true] at hs
      refine o He G0 G H σ env F rs _ g h1 fun vs G1 H1 x1 rr => ⟨by rw [rr.len, hl env rs h1]; exact small_le hn, fun p hp => ?_⟩
      obtain ⟨fp, os, hf, nd⟩ := rr.own
      rw [all_rep hs.2, ← rr.len] at os
      refine k _ G1 _ (x1.new hp) ⟨p :: fp, .l upd_same (os.new hp), List.nodup_cons.mpr ⟨fun z => ?_, nd (of_decide_eq_true hs.1)⟩, fun q z => ?_⟩
      · obtain ⟨xs, hx⟩ := os.inH p z
        rw [hx] at hp; cases hp
      · rcases List.mem_cons.mp z with rfl | z
        · exact .inl (x1.none hp)
        · exact hf q z
    · cases e'

/-! ### calls of own defs -/
mutual
def lfree : D → Bool
  | .list _ => false
  | .dict _ => false
  | .tuple ds => lfrees ds
  | _ => true
def lfrees : List D → Bool
  | [] => true
  | d :: ds => lfree d && lfrees ds
end
mutual
def lfOwn : Sh → D → Bool
  | .s, d => lfree d
  | .l e, .list ds => lfAll e ds
  | .t es, .tuple ds => lfZip es ds
  | _, _ => false
def lfAll : Sh → List D → Bool
  | _, [] => true
  | e, d :: ds => lfOwn e d && lfAll e ds
def lfZip : List Sh → List D → Bool
  | [], [] => true
  | e :: es, d :: ds => lfOwn e d && lfZip es ds
  | _, _ => false
end
section
variable {K : PySem.W.Frag} {He G0 G H G' H' G1 H1 G2 H2 H0 : Hp} {σ : L2.St} {env : Env} {F : Fp} {r : R} {v : V}
mutual
theorem rp_lfree (t : Tk G G') : ∀ {v : V} {d : D}, lfree d = true → Rp K G v d → Rp K G' v d
  | _, _, _, .non => .non
  | _, _, _, .bl b => .bl b
  | _, _, _, .int i => .int i
  | _, _, _, .str x => .str x
  | _, _, h, .lst _ _ => by simp [lfree] at h
  | _, _, h, .tup (.inl e) al => .tup (.inl (t _ _ e)) (rp_lfrees t (by simpa [lfree] using h) al)
  | _, _, h, .tup (.inr e) al => .tup (.inr e) (rp_lfrees t (by simpa [lfree] using h) al)
theorem rp_lfrees (t : Tk G G') : ∀ {vs : List V} {ds : List D}, lfrees ds = true → RpAll K G vs ds → RpAll K G' vs ds
  | _, _, _, .nil => .nil
  | _, _, h, .cons a b => by
    rw [lfrees, Bool.and_eq_true] at h
    exact .cons (rp_lfree t h.1 a) (rp_lfrees t h.2 b)
end
mutual
theorem own_lf (t : Tk G G') : ∀ {sh : Sh} {v : V} {d : D} {fp : List Addr}, lfOwn sh d = true → Own K G H sh v d fp → Own K G' H sh v d fp
  | _, _, _, _, h, .s a => .s (rp_lfree t (by simpa [lfOwn] using h) a)
  | _, _, _, _, h, .l e a => .l e (owns_lfA t (by simpa [lfOwn] using h) a rfl)
  | _, _, _, _, h, .t e a => .t e (owns_lfZ t (by simpa [lfOwn] using h) a)
theorem owns_lfA (t : Tk G G') : ∀ {e : Sh} {es : List Sh} {vs : List V} {ds : List D} {fp : List Addr}, lfAll e ds = true → Owns K G H es vs ds fp → es = List.replicate vs.length e → Owns K G' H es vs ds fp
  | _, _, _, _, _, _, .nil, _ => .nil
  | e, _, _, _, _, h, .cons (vs := vs) a b, q => by
    rw [lfAll, Bool.and_eq_true] at h
    rw [List.length_cons, List.replicate_succ] at q
    injection q with q1 q2
    subst q1
    exact .cons (own_lf t h.1 a) (owns_lfA t h.2 b q2)
theorem owns_lfZ (t : Tk G G') : ∀ {es : List Sh} {vs : List V} {ds : List D} {fp : List Addr}, lfZip es ds = true → Owns K G H es vs ds fp → Owns K G' H es vs ds fp
  | _, _, _, _, _, .nil => .nil
  | _, _, _, _, h, .cons a b => by
    rw [lfZip, Bool.and_eq_true] at h
    exact .cons (own_lf t h.1 a) (owns_lfZ t h.2 b)
end
end
abbrev Fun1 := List D → Option (Sh × D)
def spM (K : PySem.W.Frag) (n : Nat) (m : Fun1) : Sp := fun vs H Q _ => ∃ G0 ds r, ds.length = n ∧ Le G0 H ∧ RpAll K G0 vs ds ∧ m ds = some r ∧
  ∀ v G' H', Le H H' → Le G' H' → Le G0 G' → (∀ a o, G' a = some o → H a = none ∨ G0 a = some o ∨ isT o) → (∃ fp, Own K G' H' r.1 v r.2 fp ∧ fp.Nodup ∧ ∀ p ∈ fp, H p = none ∧ G' p = none) → Q v H'
/-- the def that the module's name x holds gives m of its arguments -/
structure Fn (P : Program) (w : World) (K : PySem.W.Frag) (mg : Str → Option Value) (base : Heap) (k : Nat) (x : Str) (n : Nat) (m : Fun1) : Prop where
  ex : ∃ (f : Addr) (fd : FuncData) (ps : List Str), FnOk P w K mg base CX0 k f fd ps (spM K n m) ∧ mg x = some (.ref f) ∧ PySem.W.keepIn K (.ref f) = true ∧ Binds K fd ps []
def mCall (m : Fun1) (ms : Fms) : Fm := fun env => (ms env).bind fun rs => (m (rs.map R.d)).bind fun r => if (rs.flatMap R.src).isEmpty || lfOwn r.1 r.2 then some ⟨r.1, r.2, []⟩ else none
theorem ev_call {K : PySem.W.Frag} {f : Fun1} {t : TA} {n : Nat} {E : XK} (hl : Len ms n) (o : AvOk K ms t) : EvOk K (mCall f ms) (tCall (spM K n f) [] E t) := by
  intro He G0 G H σ env F r Q g e k
  unfold mCall at e
  cases h1 : ms env with
  | none => rw [h1] at e; cases e
  | some rs =>
    cases h2 : f (rs.map R.d) with
    | none => simp [h1, h2] at e
    | some r1 =>
      simp only [h1, h2, Option.bind_some] at e
      split at e
      · rename_i hc
        cases e
        refine o He G0 G H σ env F rs _ g h1 fun vs G1 H1 x1 rr => ?_
        rw [List.append_nil]
        rcases Bool.or_eq_true _ _ ▸ hc with hc | hc
        · obtain ⟨G2, x2, _, al⟩ := rr.freeze x1 (List.isEmpty_iff.mp hc)
          refine ⟨G2, _, r1, by rw [List.length_map]; exact hl env rs h1, x2.gh, al, h2, fun v G' H' kh kg kgg gn ⟨fp, ow, nd, hf⟩ => ?_⟩
          refine k v G' H' ⟨x2.g.trans kgg, x1.h.trans kh, kg, fun a o e => ?_⟩ ⟨fp, ow, nd, fun p z => .inl ⟨?_, (hf p z).2⟩⟩
          · rcases gn a o e with e | e | e
            · refine .inr (.inl ?_)
              cases q : H a with
              | none => rfl
              | some u => rw [x1.h a u q] at e; cases e
            · exact x2.gn a o e
            · exact .inr (.inr e)
          · cases q : H p with
            | none => rfl
            | some u => have := (hf p z).1; rw [x1.h p u q] at this; cases this
        · refine ⟨H1, _, r1, by rw [List.length_map]; exact hl env rs h1, Le.rfl, rr.dp x1.gh, h2, fun v G' H' kh kg kgg gn ⟨fp, ow, nd, hf⟩ => ?_⟩
          have k1 : Le G1 H' := x1.gh.trans kh
          refine k v (addL G1 H' []) H' ⟨x1.g.trans (addL_ge k1), x1.h.trans kh, addL_le k1, fun a o e => ?_⟩ ⟨fp, own_lf (fun a xs e => addL_tk k1 a xs (kg a _ e)) hc ow, nd, fun p z => .inl ⟨?_, ?_⟩⟩
          · rcases addL_out e with e | e | e
            · cases e
            · exact x1.gn a o e
            · exact .inr (.inr e)
          · cases q : H p with
            | none => rfl
            | some u => have := (hf p z).1; rw [x1.h p u q] at this; cases this
          · cases q : addL G1 H' [] p with
            | none => rfl
            | some o =>
              rcases addL_out q with e | e | ⟨ys, rfl⟩
              · cases e
              · have := (hf p z).1
                rw [x1.gh p _ e] at this; cases this
              · obtain ⟨xs, hx⟩ := ow.inH p z
                have := addL_le k1 p _ q
                rw [hx] at this; cases this
      · cases e
theorem me_call {f : Fun1} {n k : Nat} (F : Fn X.prog X.w X.K X.mg X.base k x n f) (hr : Room k X.A) (ha : MA X (e :: es) ms) (hl : Len ms n) (hg : Gl X x := by rfl) (hdb : (x == ("__debug__" : Str)) = false := by decide)
    (he : starEach (e :: es) X.env = (false, eval e X.env) :: starEach es X.env := by rfl) (hpl : (backTo pos (starEach es X.env)).any (·.1) = false := by rfl) : ME X (.Call (.Name x p) (e :: es) [] pos) (mCall f ms) := by
  obtain ⟨fa, fd, ps, ok, hm, hk, hb⟩ := F.ex
  obtain ⟨t, pa, o⟩ := ha.ex
  exact ⟨_, pe_call (E := fun _ _ _ => False) ok hr hg hm hk hb .nil pass0 pa hdb he hpl, ev_call hl o⟩
end
end M

set_option Elab.async false
set_option linter.all false
set_option maxRecDepth 100000
/-! Mini7: statements; lists changed by place and path. -/
namespace M
open PySem PySem.Spec L2

inductive Out where
  | nx (e : Env) | bk (e : Env) | ct (e : Env) | rt (sh : Sh) (d : D)
section
variable {K : PySem.W.Frag} {He G0 G H G' H' G1 H1 G2 H2 H0 : Hp} {σ : L2.St} {env : Env} {F : Fp} {r : R} {v : V}
/-- a result behind what may have changed the body's own lists -/
structure ResX (K : PySem.W.Frag) (He G' H' : Hp) (F : Fp) (r : R) (v : V) : Prop where
  own : ∃ fp, Own K G' H' r.sh v r.d fp ∧ fp.Nodup ∧ ∀ p ∈ fp, (He p = none ∧ G' p = none ∧ ∀ i, p ∉ F i) ∨ ∃ i ∈ r.src, p ∈ F i
theorem Res.toX (g : Good K He G0 G H σ env F) (x : Ext G H G' H') (h : Res K H G' H' F r v) : ResX K He G' H' F r v := by
  obtain ⟨fp, o, n, hp⟩ := h.own
  refine ⟨fp, o, n, fun p z => ?_⟩
  rcases hp p z with ⟨a, b⟩ | a
  · refine .inl ⟨?_, b, fun i hi => ?_⟩
    · cases q : He p with
      | none => rfl
      | some u => rw [g.he p u q] at a; cases a
    · obtain ⟨xs, hx⟩ := g.ownH hi
      rw [hx] at a; cases a
  · exact .inr a
abbrev Fx := Env → Option (R × Env)
def XvOk (K : PySem.W.Frag) (m : Fx) (t : TE) : Prop :=
  ∀ (He G0 G H : Hp) (σ : L2.St) (env : Env) (F : Fp) (r : R) (env' : Env) (Q : VK), Good K He G0 G H σ env F → m env = some (r, env') →
    (∀ v G' H' F', Good K He G0 G' H' σ env' F' → Le G G' → ResX K He G' H' F' r v → Q v H') → t σ H Q
structure MX (X : Cx) (e : Expr) (m : Fx) : Prop where
  ex : ∃ t, PE X e t ∧ XvOk X.K m t
def xOf (m : Fm) : Fx := fun env => (m env).map fun r => (r, env)
theorem xv_of {m : Fm} {t : TE} (o : EvOk K m t) : XvOk K (xOf m) t := by
  intro He G0 G H σ env F r env' Q g e k
  unfold xOf at e
  cases h1 : m env with
  | none => rw [h1] at e; cases e
  | some r1 =>
    rw [h1] at e
    cases e
    exact o He G0 G H σ env F r _ g h1 fun v G' H' x rr => k v G' H' F (g.ext x) x.g (rr.toX g x)
theorem mx_of {X : Cx} {e : Expr} {m : Fm} (h : ME X e m) : MX X e (xOf m) := by
  obtain ⟨t, p, o⟩ := h.ex
  exact ⟨t, p, xv_of o⟩

/-! ### what is wanted behind a statement -/
def PostE (K : PySem.W.Frag) (He G0 G : Hp) (N : L2.St → Hp → Prop) (e : Env) : Prop := ∀ G' H' σ' F', Good K He G0 G' H' σ' e F' → Le G G' → N σ' H'
def PostR (K : PySem.W.Frag) (He G0 : Hp) (N : VK) (sh : Sh) (d : D) : Prop := ∀ v G' H' fp, Own K G' H' sh v d fp → fp.Nodup → (∀ p ∈ fp, He p = none ∧ G' p = none) → Le He H' → Le G' H' → Le G0 G' →
  (∀ a o, G' a = some o → He a = none ∨ G0 a = some o ∨ isT o) → N v H'
def Post (K : PySem.W.Frag) (He G0 G : Hp) (N : Ends) : Out → Prop
  | .nx e => PostE K He G0 G N.nx e
  | .bk e => PostE K He G0 G N.bk e
  | .ct e => PostE K He G0 G N.ct e
  | .rt sh d => PostR K He G0 N.rt sh d
theorem PostE.mono {N : L2.St → Hp → Prop} {e : Env} (k : Le G G1) (h : PostE K He G0 G N e) : PostE K He G0 G1 N e := fun G' H' σ' F' g l => h G' H' σ' F' g (k.trans l)
theorem Post.mono {N : Ends} {o : Out} (k : Le G G1) (h : Post K He G0 G N o) : Post K He G0 G1 N o := by
  cases o with
  | nx e => exact PostE.mono k h
  | bk e => exact PostE.mono k h
  | ct e => exact PostE.mono k h
  | rt sh d => exact h
abbrev Fs := Env → Option Out
def StOk (K : PySem.W.Frag) (m : Fs) (t : TS) : Prop :=
  ∀ (He G0 G H : Hp) (σ : L2.St) (env : Env) (F : Fp) (o : Out) (N : Ends), Good K He G0 G H σ env F → m env = some o → Post K He G0 G N o → t N σ H
structure MS (X : Cx) (st : Stmt) (m : Fs) : Prop where
  ex : ∃ t, PS X st t ∧ StOk X.K m t
structure MSs (X : Cx) (st : List Stmt) (m : Fs) : Prop where
  ex : ∃ t, PSs X st t ∧ StOk X.K m t
def mSkip : Fs := fun env => some (.nx env)
def mSeq (a b : Fs) : Fs := fun env => (a env).bind fun o => match o with
  | .nx e => b e
  | o => some o

/-! ### stores -/
def kill (env : Env) : List Nat → Env
  | [] => env
  | i :: is => kill (env.set i none) is
theorem kill_len : ∀ (is : List Nat) (env : Env), (kill env is).length = env.length
  | [], _ => rfl
  | i :: is, env => by rw [kill, kill_len is, List.length_set]
theorem kill_get : ∀ (is : List Nat) (env : Env) (j : Nat) (x : Sh × D), (kill env is)[j]? = some (some x) → j ∉ is ∧ env[j]? = some (some x)
  | [], _, _, _, h => ⟨by simp, h⟩
  | i :: is, env, j, x, h => by
    obtain ⟨h1, h2⟩ := kill_get is _ j x h
    by_cases e : i = j
    · subst e
      rw [List.getElem?_set_self'] at h2
      cases q : env[i]? with
      | none => rw [q] at h2; cases h2
      | some y => rw [q] at h2; cases h2
    · rw [List.getElem?_set_ne e] at h2
      exact ⟨by simp [h1]; exact fun z => e z.symm, h2⟩
theorem kill_keep : ∀ (is : List Nat) (env : Env) (j : Nat), j ∉ is → (kill env is)[j]? = env[j]?
  | [], _, _, _ => rfl
  | i :: is, env, j, h => by
    simp at h
    rw [kill, kill_keep is _ j h.2, List.getElem?_set_ne (fun z => h.1 z.symm)]
def store (env : Env) (i : Nat) (r : R) : Option Env := if i < env.length then some ((kill env r.src).set i (some (r.sh, r.d))) else none
theorem Good.store {i : Nat} {env' : Env} (g : Good K He G0 G H σ env F) (rr : ResX K He G H F r v) (e : store env i r = some env') : ∃ F', Good K He G0 G H (σ.set i (some v)) env' F' := by
  unfold M.store at e
  split at e
  · rename_i hi
    cases e
    obtain ⟨fp, o, nd, hp⟩ := rr.own
    refine ⟨fun j => if j = i then fp else if j ∈ r.src then [] else F j, ?_⟩
    have cases_in : ∀ j p, p ∈ (if j = i then fp else if j ∈ r.src then [] else F j) → (j = i ∧ p ∈ fp) ∨ (j ≠ i ∧ j ∉ r.src ∧ p ∈ F j) := fun j p hz => by
      by_cases h1 : j = i
      · rw [if_pos h1] at hz; exact .inl ⟨h1, hz⟩
      · rw [if_neg h1] at hz
        by_cases h2 : j ∈ r.src
        · rw [if_pos h2] at hz; cases hz
        · rw [if_neg h2] at hz; exact .inr ⟨h1, h2, hz⟩
    have apart : ∀ j p, j ∉ r.src → p ∈ fp → p ∉ F j := fun j p hj z hz => by
      rcases hp p z with ⟨_, _, c⟩ | ⟨k, hk, c⟩
      · exact c j hz
      · exact g.dj k j p (fun q => hj (q ▸ hk)) c hz
    refine ⟨by rw [List.length_set, List.length_set, kill_len, g.len], fun j sh d h => ?_, fun j h => ?_, fun j => ?_, fun j k p hjk h1 h2 => ?_, fun j p h => ?_, g.he, g.gh, g.g0g, g.g0⟩
    · by_cases hj : j = i
      · subst hj
        rw [List.getElem?_set_self (by rw [kill_len]; exact hi)] at h
        cases h
        exact ⟨v, by rw [List.getElem?_set_self (by rw [← g.len]; exact hi)], by rw [if_pos rfl]; exact o⟩
      · rw [List.getElem?_set_ne (fun z => hj z.symm)] at h
        obtain ⟨h1, h2⟩ := kill_get _ _ _ _ h
        obtain ⟨w, hw, ow⟩ := g.slot j sh d h2
        exact ⟨w, by rw [List.getElem?_set_ne (fun z => hj z.symm)]; exact hw, by rw [if_neg hj, if_neg h1]; exact ow⟩
    · by_cases hj : j = i
      · subst hj
        exact absurd (List.getElem?_set_self (by rw [kill_len]; exact hi)) (h (r.sh, r.d))
      · by_cases h1 : j ∈ r.src
        · rw [if_neg hj, if_pos h1]
        · rw [if_neg hj, if_neg h1]
          refine g.emp j fun x hx => h x ?_
          rw [List.getElem?_set_ne (fun z => hj z.symm), kill_keep _ _ _ h1]
          exact hx
    · split
      · exact nd
      · split
        · exact List.nodup_nil
        · exact g.nd j
    · rcases cases_in j p h1 with ⟨a, b⟩ | ⟨a, b, c⟩
      · rcases cases_in k p h2 with ⟨a', b'⟩ | ⟨a', b', c'⟩
        · exact hjk (a.trans a'.symm)
        · exact apart k p b' b c'
      · rcases cases_in k p h2 with ⟨a', b'⟩ | ⟨a', b', c'⟩
        · exact apart j p b b' c
        · exact g.dj j k p hjk c c'
    · rcases cases_in j p h with ⟨a, b⟩ | ⟨a, b, c⟩
      · rcases hp p b with ⟨h1, h2, _⟩ | ⟨k, _, c⟩
        · exact ⟨h1, h2⟩
        · exact g.out k p c
      · exact g.out j p c
  · cases e
def mSet (i : Nat) (m : Fx) : Fs := fun env => (m env).bind fun x => (store x.2 i x.1).bind fun e => some (.nx e)
theorem st_set {i : Nat} {m : Fx} {t : TE} (o : XvOk K m t) : StOk K (mSet i m) (tAsg t (gName i)) := by
  intro He G0 G H σ env F o' N g e k
  unfold mSet at e
  cases h1 : m env with
  | none => rw [h1] at e; cases e
  | some x =>
    obtain ⟨r, env1⟩ := x
    cases h2 : store env1 i r with
    | none => simp [h1, h2] at e
    | some env2 =>
      simp only [h1, h2, Option.bind_some] at e
      cases e
      refine o He G0 G H σ env F r env1 _ g h1 fun v G' H' F' g' l rr => ?_
      obtain ⟨F2, g2⟩ := g'.store rr h2
      exact k G' H' _ F2 g2 l
def unS : D → Option (List D)
  | .tuple ds => some ds
  | _ => none
/-- a target: a name's slot, or names' slots -/
abbrev Fg := Env → D → Option Env
def tgN (i : Nat) : Fg := fun env d => store env i ⟨.s, d, []⟩
def tgs : List Nat → Env → List D → Option Env
  | [], env, [] => some env
  | i :: is, env, d :: ds => (store env i ⟨.s, d, []⟩).bind fun e => tgs is e ds
  | _, _, _ => none
def tgT (is : List Nat) : Fg := fun env d => (unS d).bind fun ds => tgs is env ds
/-- only these slots changed -/
def Frm (sl : List Nat) (σ σ' : L2.St) : Prop := σ'.length = σ.length ∧ ∀ j, j ∉ sl → σ'[j]? = σ[j]?
theorem Frm.set {i : Nat} {v : Option V} : Frm [i] σ (σ.set i v) := ⟨by rw [List.length_set], fun j h => by rw [List.getElem?_set_ne]; simp at h; exact fun z => h z.symm⟩
def GvOk (K : PySem.W.Frag) (sl : List Nat) (m : Fg) (t : TG) : Prop :=
  ∀ (He G0 G H : Hp) (σ : L2.St) (env : Env) (F : Fp) (d : D) (env' : Env) (v : V) (Q : L2.St → Hp → Prop), Good K He G0 G H σ env F → Rp K G v d → m env d = some env' →
    (∀ σ' F', Frm sl σ σ' → Good K He G0 G H σ' env' F' → Q σ' H) → t v σ H Q
structure MG (X : Cx) (e : Expr) (sl : List Nat) (m : Fg) : Prop where
  ex : ∃ t, PG X e t ∧ GvOk X.K sl m t
theorem gv_name {i : Nat} : GvOk K [i] (tgN i) (gName i) := by
  intro He G0 G H σ env F d env' v Q g rp e k
  obtain ⟨F', g'⟩ := g.store (r := ⟨.s, d, []⟩) (v := v) ⟨[], .s rp, List.nodup_nil, fun p z => nomatch z⟩ e
  exact k _ F' .set g'
def GsOk (K : PySem.W.Frag) (sl : List Nat) (m : Env → List D → Option Env) (t : TGs) : Prop :=
  ∀ (He G0 G H : Hp) (σ : L2.St) (env : Env) (F : Fp) (ds : List D) (env' : Env) (vs : List V) (Q : L2.St → Hp → Prop), Good K He G0 G H σ env F → RpAll K G vs ds → m env ds = some env' →
    (∀ σ' F', Frm sl σ σ' → Good K He G0 G H σ' env' F' → Q σ' H) → t vs σ H Q
theorem gs_nil : GsOk K [] (tgs []) gNil := by
  intro He G0 G H σ env F ds env' vs Q g rp e k
  cases rp with
  | nil => cases e; exact ⟨rfl, k σ F ⟨rfl, fun _ _ => rfl⟩ g⟩
  | cons _ _ => cases e
theorem gs_cons {i : Nat} {is : List Nat} {t : TGs} (h : GsOk K is (tgs is) t) : GsOk K (i :: is) (tgs (i :: is)) (gCons (gName i) t) := by
  intro He G0 G H σ env F ds env' vs Q g rp e k
  cases rp with
  | nil => cases e
  | cons a b =>
    rename_i v vs d ds
    unfold tgs at e
    cases h1 : store env i ⟨.s, d, []⟩ with
    | none => rw [h1] at e; cases e
    | some e1 =>
      rw [h1] at e
      refine ⟨v, vs, rfl, ?_⟩
      obtain ⟨F', g'⟩ := g.store (r := ⟨.s, d, []⟩) (v := v) ⟨[], .s a, List.nodup_nil, fun p z => nomatch z⟩ h1
      exact h He G0 G H _ e1 F' ds env' vs Q g' b e fun σ' F2 fr g2 => k σ' F2 ⟨by rw [fr.1, List.length_set], fun j hj => by
        simp at hj
        rw [fr.2 j hj.2, List.getElem?_set_ne (fun z => hj.1 z.symm)]⟩ g2
structure MGs (X : Cx) (es : List Expr) (is : List Nat) : Prop where
  ex : ∃ t, PGs X es t ∧ GsOk X.K is (tgs is) t
end

section
variable {X : Cx} {e a b c : Expr} {es : List Expr} {m ma mb mc : Fm} {mx : Fx} {ms : Fms} {pos p : Pos} {x : Str} {st : Stmt} {sts : List Stmt} {f g h : Fs}
theorem mg_name {i : Nat} (hN : X.N.Nodup) (hi : X.N[i]? = some x) (hx : Loc X.env.scope x) (hf : X.fn x = true ∨ X.env.scope.names.lookup x = some .local := by first | exact .inl rfl | exact .inr rfl | assumption) : MG X (.Name x pos) [i] (tgN i) :=
  ⟨_, pg_name hN hi hx hf, gv_name⟩
theorem mgs_nil : MGs X [] [] := ⟨_, pgs_nil, gs_nil⟩
theorem mgs_cons {i : Nat} {is : List Nat} (hN : X.N.Nodup) (hi : X.N[i]? = some x) (hx : Loc X.env.scope x) (ht : MGs X es is) (hf : X.fn x = true ∨ X.env.scope.names.lookup x = some .local := by first | exact .inl rfl | exact .inr rfl | assumption) :
    MGs X (.Name x pos :: es) (i :: is) := by
  obtain ⟨t, p, o⟩ := ht.ex
  exact ⟨_, pgs_cons (pg_name hN hi hx hf) p, gs_cons o⟩
theorem gv_tup {K : PySem.W.Frag} {is : List Nat} {t : TGs} {n : Nat} (o : GsOk K is (tgs is) t) (hn : is.length = n) : GvOk K is (tgT is) (gTup K n t) := by
  intro He G0 G H σ env F d env' v Q g rp e k
  unfold tgT at e
  cases d with
  | tuple ds =>
    have e : tgs is env ds = some env' := e
    cases rp with
    | tup s al =>
      refine ⟨_, _, rfl, (s.mono g.gh).sq, ?_, o He G0 G H σ env F ds env' _ Q g al e k⟩
      rw [dpAll_len al, ← hn]
      have : ∀ (is : List Nat) (env : Env) (ds : List D), tgs is env ds = some env' → ds.length = is.length := by
        intro is
        induction is with
        | nil => intro env ds h; cases ds with
          | nil => rfl
          | cons _ _ => cases h
        | cons i is ih => intro env ds h; cases ds with
          | nil => cases h
          | cons d ds =>
            unfold tgs at h
            cases h1 : store env i ⟨.s, d, []⟩ with
            | none => rw [h1] at h; cases h
            | some e1 => rw [h1] at h; rw [List.length_cons, List.length_cons, ih e1 ds h]
      exact this is env ds e
  | _ => cases e
theorem mg_tup {k : Nat} {n : Nat} {is : List Nat} (hc : X.calm = true) (h : MGs X es is) (hn : (assignEach es X.env).length = n := by rfl) (hst : (assignEach es X.env).findIdx? (·.1) = none := by rfl) (hl : is.length = n := by rfl) : MG X (.Tuple es k pos) is (tgT is) := by
  obtain ⟨t, p, o⟩ := h.ex
  exact ⟨_, pg_tup (n := n) hc p hn hst, gv_tup o hl⟩
theorem mss_nil : MSs X [] mSkip := by
  refine ⟨_, pss_nil, ?_⟩
  intro He G0 G H σ env F o N g e k
  cases e
  exact k G H σ F g Le.rfl
theorem mss_cons (h1 : MS X st f) (h2 : MSs X sts g) : MSs X (st :: sts) (mSeq f g) := by
  obtain ⟨t, p, o⟩ := h1.ex
  obtain ⟨u, q, o'⟩ := h2.ex
  refine ⟨_, pss_cons p q, ?_⟩
  intro He G0 G H σ env F r N gd e k
  unfold mSeq at e
  cases h1 : f env with
  | none => rw [h1] at e; cases e
  | some w =>
    rw [h1] at e
    refine o He G0 G H σ env F w _ gd h1 ?_
    cases w with
    | nx e1 => exact fun G' H' σ' F' g' l => o' He G0 G' H' σ' e1 F' r N g' e (k.mono l)
    | bk e1 => cases e; exact k
    | ct e1 => cases e; exact k
    | rt sh d => cases e; exact k
theorem mss_one (h1 : MS X st f) : MSs X [st] f := by
  obtain ⟨t, p, o⟩ := h1.ex
  exact ⟨t, pss_one p, o⟩
theorem ms_pass : MS X (.Pass pos) mSkip := by
  refine ⟨_, ps_pass, ?_⟩
  intro He G0 G H σ env F o N g e k
  cases e
  exact k G H σ F g Le.rfl
def mBrk : Fs := fun env => some (.bk env)
def mCnt : Fs := fun env => some (.ct env)
theorem ms_break : MS X (.Break pos) mBrk := by
  refine ⟨_, ps_break, ?_⟩
  intro He G0 G H σ env F o N g e k
  cases e
  exact k G H σ F g Le.rfl
theorem ms_cont : MS X (.Continue pos) mCnt := by
  refine ⟨_, ps_continue, ?_⟩
  intro He G0 G H σ env F o N g e k
  cases e
  exact k G H σ F g Le.rfl
theorem ms_set {i : Nat} {pos' : Pos} (hN : X.N.Nodup) (hi : X.N[i]? = some x) (hx : Loc X.env.scope x) (he : MX X e mx) (hs : swapsWith e (some (.Name x pos')) pos.line X.env = pure false := by rfl) (hf : X.fn x = true ∨ X.env.scope.names.lookup x = some .local := by first | exact .inl rfl | exact .inr rfl | assumption) :
    MS X (.Assign [.Name x pos'] e pos) (mSet i mx) := by
  obtain ⟨t, p, o⟩ := he.ex
  exact ⟨_, ps_set hN hi hx p hs hf, st_set o⟩
/-- a target of a tuple of names -/
def mSetT (m : Fm) (tg : Fg) : Fs := fun env => (m env).bind fun r => match r.sh with
  | .s => (tg env r.d).bind fun e => some (.nx e)
  | _ => none
theorem ms_asgT {tgt : Expr} {sl : List Nat} {tg : Fg} (he : ME X e m) (hg : MG X tgt sl tg) (hs : swapsWithSole [tgt] e pos.line X.env = pure false := by rfl) (hw : swappedStores [tgt] e X.env = pure none := by rfl)
    (h1 : (assignEach [tgt] X.env).map (·.2) = [assign tgt X.env] := by rfl) : MS X (.Assign [tgt] e pos) (mSetT m tg) := by
  obtain ⟨t, p, o⟩ := he.ex
  obtain ⟨u, q, o'⟩ := hg.ex
  refine ⟨_, ps_asg p q hs hw h1, ?_⟩
  intro He G0 G H σ env F r N g e k
  unfold mSetT at e
  cases h1 : m env with
  | none => rw [h1] at e; cases e
  | some w =>
    obtain ⟨sh, d, src⟩ := w
    rw [h1] at e
    simp only [Option.bind_some] at e
    split at e
    · cases h2 : tg env d with
      | none => rw [h2] at e; cases e
      | some e1 =>
        rw [h2] at e; cases e
        refine o He G0 G H σ env F _ _ g h1 fun v G1 H1 x1 rr => ?_
        exact o' He G0 G1 H1 σ env F d e1 v _ (g.ext x1) (rr.sdp rfl) h2 fun σ' F' _ g' => k G1 H1 σ' F' g' x1.g
    · cases e
def mExp (m : Fx) : Fs := fun env => (m env).bind fun x => some (.nx x.2)
theorem ms_expr (he : MX X e mx) (hs : swapsWith e none pos.line X.env = pure false := by rfl) : MS X (.Expr e pos) (mExp mx) := by
  obtain ⟨t, p, o⟩ := he.ex
  refine ⟨_, ps_expr p hs, ?_⟩
  intro He G0 G H σ env F r N g e k
  unfold mExp at e
  cases h1 : mx env with
  | none => rw [h1] at e; cases e
  | some w =>
    rw [h1] at e; cases e
    exact o He G0 G H σ env F _ _ _ g h1 fun v G' H' F' g' l _ => k G' H' σ F' g' l
def mRet (m : Fx) : Fs := fun env => (m env).bind fun x => some (.rt x.1.sh x.1.d)
theorem ms_ret (he : MX X e mx) : MS X (.Return (some e) pos) (mRet mx) := by
  obtain ⟨t, p, o⟩ := he.ex
  refine ⟨_, ps_ret p, ?_⟩
  intro He G0 G H σ env F r N g e k
  unfold mRet at e
  cases h1 : mx env with
  | none => rw [h1] at e; cases e
  | some w =>
    rw [h1] at e; cases e
    refine o He G0 G H σ env F _ _ _ g h1 fun v G' H' F' g' l rr => ?_
    obtain ⟨fp, ow, nd, hp⟩ := rr.own
    refine k v G' H' fp ow nd (fun p z => ?_) g'.he g'.gh g'.g0g g'.g0
    rcases hp p z with ⟨a, b, _⟩ | ⟨i, _, a⟩
    · exact ⟨a, b⟩
    · exact g'.out i p a
def mRetN : Fs := fun _ => some (.rt .s .none)
theorem ms_retN : MS X (.Return none pos) mRetN := by
  refine ⟨_, ps_retN, ?_⟩
  intro He G0 G H σ env F r N g e k
  cases e
  exact k .non G H [] (.s .non) List.nodup_nil (fun p z => nomatch z) g.he g.gh g.g0g g.g0
def mIfS (c : Ft) (a b : Fs) : Fs := fun env => (c env).bind fun x => if x then a env else b env
theorem ms_if {tc : Ft} {sa sb : List Stmt} (hc : MT X c tc) (ha : MSs X sa f) (hb : MSs X sb g) : MS X (.If c sa sb pos) (mIfS tc f g) := by
  obtain ⟨t, p, o⟩ := hc.ex
  obtain ⟨u, q, o'⟩ := ha.ex
  obtain ⟨w, z, o2⟩ := hb.ex
  refine ⟨_, ps_if p q z, ?_⟩
  intro He G0 G H σ env F r N gd e k
  unfold mIfS at e
  cases h1 : tc env with
  | none => rw [h1] at e; cases e
  | some x =>
    rw [h1] at e
    refine o He G0 G H σ env F x _ gd h1 fun G1 H1 x1 => ?_
    cases x with
    | true => exact o' He G0 G1 H1 σ env F r N (gd.ext x1) e (k.mono x1.g)
    | false => exact o2 He G0 G1 H1 σ env F r N (gd.ext x1) e (k.mono x1.g)
/-- to share a slot's own lists, ahead of a statement -/
def mFrz (i : Nat) (f : Fs) : Fs := fun env => match env[i]? with
  | some (some (_, d)) => f (env.set i (some (.s, d)))
  | _ => none
theorem Good.frz {K : PySem.W.Frag} {He G0 G H : Hp} {σ : L2.St} {env : Env} {F : Fp} {i : Nat} {sh : Sh} {d : D} (g : Good K He G0 G H σ env F) (h : env[i]? = some (some (sh, d))) :
    ∃ G', Le G G' ∧ Good K He G0 G' H σ (env.set i (some (.s, d))) (fun j => if j = i then [] else F j) := by
  obtain ⟨v, hv, o⟩ := g.slot i sh d h
  have hi : i < env.length := (List.getElem?_eq_some_iff.mp h).1
  refine ⟨addL G H (F i), addL_ge g.gh, ⟨by rw [List.length_set, g.len], fun j sh' d' h' => ?_, fun j h' => ?_, fun j => ?_, fun j k p hjk h1 h2 => ?_, fun j p hp => ?_, g.he, addL_le g.gh, g.g0g.trans (addL_ge g.gh), fun a u e => ?_⟩⟩
  · by_cases hj : j = i
    · subst hj
      rw [List.getElem?_set_self hi] at h'
      cases h'
      exact ⟨v, hv, by rw [if_pos rfl]; exact .s (o.dp (addL_ge g.gh) (addL_tk g.gh) fun p z => addL_in z)⟩
    · rw [List.getElem?_set_ne (fun z => hj z.symm)] at h'
      obtain ⟨w, hw, ow⟩ := g.slot j sh' d' h'
      exact ⟨w, hw, by rw [if_neg hj]; exact ow.mono (addL_ge g.gh) Le.rfl.tk fun _ _ => rfl⟩
  · by_cases hj : j = i
    · rw [if_pos hj]
    · rw [if_neg hj]
      refine g.emp j fun x hx => h' x ?_
      rw [List.getElem?_set_ne (fun z => hj z.symm)]; exact hx
  · split
    · exact List.nodup_nil
    · exact g.nd j
  · split at h1
    · cases h1
    · split at h2
      · cases h2
      · exact g.dj j k p hjk h1 h2
  · split at hp
    · cases hp
    · rename_i hj
      refine ⟨(g.out j p hp).1, ?_⟩
      cases q : addL G H (F i) p with
      | none => rfl
      | some u =>
        rcases addL_out q with z | z | ⟨ys, rfl⟩
        · exact absurd z (g.dj j i p hj hp)
        · rw [(g.out j p hp).2] at z; cases z
        · obtain ⟨xs, hx⟩ := g.ownH hp
          have := addL_le g.gh p _ q
          rw [hx] at this; cases this
  · rcases addL_out e with z | z | z
    · exact .inl (g.out i a z).1
    · exact g.g0 a u z
    · exact .inr (.inr z)
theorem st_frz {K : PySem.W.Frag} {i : Nat} {t : TS} (o : StOk K f t) : StOk K (mFrz i f) t := by
  intro He G0 G H σ env F r N g e k
  unfold mFrz at e
  split at e
  · rename_i sh d h1
    obtain ⟨G', l, g'⟩ := g.frz h1
    exact o He G0 G' H σ _ _ r N g' e (k.mono l)
  · cases e
theorem ms_frz {i : Nat} (h : MS X st f) : MS X st (mFrz i f) := by
  obtain ⟨t, p, o⟩ := h.ex
  exact ⟨t, p, st_frz o⟩
theorem mss_frz {i : Nat} (h : MSs X sts f) : MSs X sts (mFrz i f) := by
  obtain ⟨t, p, o⟩ := h.ex
  exact ⟨t, p, st_frz o⟩
/-- a store whose value is shared at once -/
def shareE (env : Env) (i : Nat) : Option Env := match env[i]? with
  | some (some (_, d)) => some (env.set i (some (.s, d)))
  | _ => none
def mSetF (i : Nat) (m : Fx) : Fs := fun env => (m env).bind fun x => (store x.2 i x.1).bind fun e => (shareE e i).bind fun e => some (.nx e)
theorem st_setF {K : PySem.W.Frag} {i : Nat} {m : Fx} {t : TE} (o : XvOk K m t) : StOk K (mSetF i m) (tAsg t (gName i)) := by
  intro He G0 G H σ env F o' N g e k
  unfold mSetF at e
  cases h1 : m env with
  | none => rw [h1] at e; cases e
  | some x =>
    obtain ⟨r, env1⟩ := x
    cases h2 : store env1 i r with
    | none => simp [h1, h2] at e
    | some env2 =>
      cases h3 : shareE env2 i with
      | none => simp [h1, h2, h3] at e
      | some env3 =>
        simp only [h1, h2, h3, Option.bind_some] at e
        cases e
        refine o He G0 G H σ env F r env1 _ g h1 fun v G' H' F' g' l rr => ?_
        obtain ⟨F2, g2⟩ := g'.store rr h2
        unfold shareE at h3
        split at h3
        · rename_i sh d h4
          cases h3
          obtain ⟨G3, l3, g3⟩ := g2.frz h4
          exact k G3 H' _ _ g3 (l.trans l3)
        · cases h3
theorem ms_setF {i : Nat} {pos' : Pos} (hN : X.N.Nodup) (hi : X.N[i]? = some x) (hx : Loc X.env.scope x) (he : MX X e mx) (hs : swapsWith e (some (.Name x pos')) pos.line X.env = pure false := by rfl) (hf : X.fn x = true ∨ X.env.scope.names.lookup x = some .local := by first | exact .inl rfl | exact .inr rfl | assumption) :
    MS X (.Assign [.Name x pos'] e pos) (mSetF i mx) := by
  obtain ⟨t, p, o⟩ := he.ex
  exact ⟨_, ps_set hN hi hx p hs hf, st_setF o⟩
end
end M

set_option Elab.async false
set_option linter.all false
set_option maxRecDepth 100000
/-! Mini8: for, while, comprehensions. -/
namespace M
open PySem PySem.Spec L2
section
variable {K : PySem.W.Frag} {He G0 G H G' H' G1 H1 G2 H2 H0 : Hp} {σ : L2.St} {env : Env} {F : Fp} {r : R} {v : V}
/-! ### what is walked -/
/-- J gives the data ds, one by one, while what G shares is shared and B stands -/
structure ItOk (K : PySem.W.Frag) (G B : Hp) (J : It) (ds : List D) : Prop where
  go : ∀ i d G1 H1, ds[i]? = some d → Le G G1 → Le B H1 → Le G1 H1 → J.go i H1 ∧ ∀ x H2, J.yld i H1 x H2 → ∃ G2, Ext G1 H1 G2 H2 ∧ Rp K G2 x d
  stop : ∀ H1, Le B H1 → J.stop ds.length H1
abbrev Fi := Env → Option (List D × Bool)
def IvOk (K : PySem.W.Frag) (m : Fi) (t : TI) : Prop :=
  ∀ (He G0 G H : Hp) (σ : L2.St) (env : Env) (F : Fp) (ds : List D) (own : Bool) (Q : It → Hp → Prop), Good K He G0 G H σ env F → m env = some (ds, own) →
    (∀ J G' H', Ext G H G' H' → ItOk K G' (if own then H' else G') J ds → Q J H') → t σ H Q
structure MI (X : Cx) (tg e : Expr) (m : Fi) : Prop where
  ex : ∃ t, PI X tg e t ∧ IvOk X.K m t
theorem it_list {a : Addr} {B : Hp} {us : List V} {ds : List D} (hr : SqL K B a us) (al : RpAll K G us ds) : ItOk K G B (Itl K a) ds where
  go := fun i d G1 H1 h k1 k2 k3 => by
    obtain ⟨x, hx, hd⟩ := dpAll_get al h
    have sq : SqL K H1 a us := sql_mono k2 hr
    refine ⟨⟨us, x, sq, hx⟩, fun y H2 hy => ?_⟩
    obtain ⟨rfl, hy⟩ := hy
    have e := hy us sq
    rw [hx] at e; cases e
    exact ⟨G1, Ext.refl k3, dp_mono k1 hd⟩
  stop := fun H1 k => ⟨us, sql_mono k hr, by rw [dpAll_len al]; exact Nat.le_refl _⟩
theorem it_tup {a : Addr} {B : Hp} {us : List V} {ds : List D} (hr : Tp K B a us) (al : RpAll K G us ds) : ItOk K G B (Itt K a) ds where
  go := fun i d G1 H1 h k1 k2 k3 => by
    obtain ⟨x, hx, hd⟩ := dpAll_get al h
    have sq : SqT K H1 a us := (hr.mono k2).sq
    refine ⟨⟨us, x, sq, hx⟩, fun y H2 hy => ?_⟩
    obtain ⟨rfl, hy⟩ := hy
    have e := hy us sq
    rw [hx] at e; cases e
    exact ⟨G1, Ext.refl k3, dp_mono k1 hd⟩
  stop := fun H1 k => ⟨us, (hr.mono k).sq, by rw [dpAll_len al]; exact Nat.le_refl _⟩
/-- lo, lo + 1, .. -/
def rngD (lo : Int) (n : Nat) : List D := (List.range n).map fun i => .int (lo + (i : Nat))
theorem rngD_len (lo : Int) (n : Nat) : (rngD lo n).length = n := by simp [rngD]
theorem rngD_get {lo : Int} {n i : Nat} {d : D} (h : (rngD lo n)[i]? = some d) : i < n ∧ d = .int (lo + (i : Nat)) := by
  unfold rngD at h
  rw [List.getElem?_map] at h
  cases e : (List.range n)[i]? with
  | none => rw [e] at h; cases h
  | some j =>
    rw [e] at h
    obtain ⟨h1, h2⟩ := List.getElem?_eq_some_iff.mp e
    simp at h1 h2
    subst h2
    cases h
    exact ⟨h1, rfl⟩
theorem it_rng {B : Hp} {lo : Int} {n : Nat} : ItOk K G B (Itr lo n) (rngD lo n) where
  go := fun i d G1 H1 h _ _ k3 => by
    obtain ⟨h1, rfl⟩ := rngD_get h
    refine ⟨h1, fun y H2 hy => ?_⟩
    obtain ⟨rfl, rfl⟩ := hy
    exact ⟨G1, Ext.refl k3, .int _⟩
  stop := fun H1 _ => by rw [rngD_len]; exact Nat.le_refl _
end

section
variable {X : Cx} {tg e a b c : Expr} {es : List Expr} {m ma mb mc : Fm} {ms : Fms} {pos p tpos : Pos} {x : Str}
def iSq (m : Fm) : Fi := fun env => (m env).bind fun r => match r.sh, r.d with
  | .s, .list ds => some (ds, false)
  | .s, .tuple ds => some (ds, false)
  | .l .s, .list ds => some (ds, !r.src.isEmpty)
  | _, _ => none
theorem PI.or {t u : TI} (h : PI X tg e t) (h' : PI X tg e u) : PI X tg e (fun σ H R => t σ H R ∨ u σ H R) := ⟨fun pins s σ H R I q => by
  rcases q with q | q
  · exact h.run pins s σ H R I q
  · exact h'.run pins s σ H R I q⟩
theorem mi_seq (h : ME X e m) : MI X tg e (iSq m) := by
  obtain ⟨t, p, o⟩ := h.ex
  refine ⟨_, M.PI.or (pi_list p) (pi_tup p), ?_⟩
  intro He G0 G H σ env F ds own Q g e k
  unfold iSq at e
  cases h1 : m env with
  | none => rw [h1] at e; cases e
  | some r =>
    obtain ⟨sh, d, src⟩ := r
    rw [h1] at e
    simp only [Option.bind_some] at e
    split at e
    · cases e
      refine .inl (o He G0 G H σ env F _ _ g h1 fun v G' H' x rr => ?_)
      have hd := rr.sdp rfl
      cases hd with
      | lst s al => exact ⟨_, rfl, ⟨_, sql_mono x.gh s⟩, k _ G' H' x (it_list s al)⟩
    · cases e
      refine .inr (o He G0 G H σ env F _ _ g h1 fun v G' H' x rr => ?_)
      have hd := rr.sdp rfl
      cases hd with
      | tup s al => exact ⟨_, rfl, ⟨_, (s.mono x.gh).sq⟩, k _ G' H' x (it_tup s al)⟩
    · cases e
      refine .inl (o He G0 G H σ env F _ _ g h1 fun v G' H' x rr => ?_)
      cases hs : src.isEmpty with
      | true =>
        obtain ⟨G2, x2, _, hd⟩ := rr.freeze x (List.isEmpty_iff.mp hs)
        cases hd with
        | lst s al =>
          refine ⟨_, rfl, ⟨_, sql_mono x2.gh s⟩, k _ G2 H' x2 ?_⟩
          rw [hs]
          exact it_list s al
      | false =>
        obtain ⟨fp, ow, _⟩ := rr.own
        cases ow with
        | l hH os =>
          refine ⟨_, rfl, ⟨_, .of hH⟩, k _ G' H' x ?_⟩
          rw [hs]
          exact it_list (.of hH) os.sall.1
    · cases e
def okR (i : Int) : Bool := decide (-(2 ^ 62) ≤ i) && decide (i < 2 ^ 62)
theorem okR_inv {i : Int} (h : okR i = true) : -(2 ^ 62) ≤ i ∧ i < 2 ^ 62 := by
  simpa [okR] using h
def iR1 (m : Fm) : Fi := fun env => (m env).bind fun r => (asI r).bind fun j => if okR j then some (rngD 0 j.toNat, false) else none
def iR2 (ma mb : Fm) : Fi := fun env => (ma env).bind fun a => (mb env).bind fun b => (asI a).bind fun i => (asI b).bind fun j => if okR i && okR j then some (rngD i (j - i).toNat, false) else none
theorem mi_r1 (hg : Gl X "range") (hm : X.mg "range" = none) (ha : ME X a ma) (hs : starEach [a] X.env = [(false, eval a X.env)] := by rfl) : MI X tg (.Call (.Name "range" p) [a] [] pos) (iR1 ma) := by
  obtain ⟨t, pa, o⟩ := ha.ex
  refine ⟨_, pi_range1 hg hm (pa_cons pa pa_nil hs) hs, ?_⟩
  intro He G0 G H σ env F ds own Q g e k
  unfold iR1 at e
  cases h1 : ma env with
  | none => rw [h1] at e; cases e
  | some r =>
    cases h2 : asI r with
    | none => simp [h1, h2] at e
    | some j =>
      simp only [h1, h2, Option.bind_some] at e
      split at e
      · rename_i hj
        cases e
        refine o He G0 G H σ env F _ _ g h1 fun v G' H' x rr => ⟨j, by rw [rr.int (asI_inv h2)], (okR_inv hj).1, (okR_inv hj).2, k _ G' H' x it_rng⟩
      · cases e
theorem mi_r2 (hg : Gl X "range") (hm : X.mg "range" = none) (ha : ME X a ma) (hb : ME X b mb) (hs : starEach [a, b] X.env = [(false, eval a X.env), (false, eval b X.env)] := by rfl) (hs2 : starEach [b] X.env = [(false, eval b X.env)] := by rfl) :
    MI X tg (.Call (.Name "range" p) [a, b] [] pos) (iR2 ma mb) := by
  obtain ⟨t, pa, o⟩ := ha.ex
  obtain ⟨u, pb, o'⟩ := hb.ex
  refine ⟨_, pi_range2 hg hm (pa_cons pa (pa_cons pb pa_nil hs2) (by rw [hs, hs2])) hs hs2, ?_⟩
  intro He G0 G H σ env F ds own Q g e k
  unfold iR2 at e
  cases h1 : ma env with
  | none => rw [h1] at e; cases e
  | some r =>
    cases h2 : mb env with
    | none => simp [h1, h2] at e
    | some r' =>
      cases h3 : asI r with
      | none => simp [h1, h2, h3] at e
      | some i =>
        cases h4 : asI r' with
        | none => simp [h1, h2, h3, h4] at e
        | some j =>
          simp only [h1, h2, h3, h4, Option.bind_some] at e
          split at e
          · rename_i hj
            cases e
            rw [Bool.and_eq_true] at hj
            refine o He G0 G H σ env F _ _ g h1 fun v G1 H1 x1 rr => o' He G0 G1 H1 σ env F _ _ (g.ext x1) h2 fun u G2 H2 x2 rr2 => ?_
            exact ⟨i, j, by rw [rr.int (asI_inv h3), rr2.int (asI_inv h4)], ⟨(okR_inv hj.1).1, (okR_inv hj.1).2, (okR_inv hj.2).1, (okR_inv hj.2).2⟩, k _ G2 H2 (x1.trans x2) it_rng⟩
          · cases e

/-! ### for -/
def forL (b : D → Env → Option Out) : List D → Env → Option Out
  | [], env => some (.nx env)
  | d :: ds, env => match b d env with
    | some (.nx e) => forL b ds e
    | some (.ct e) => forL b ds e
    | some (.bk e) => some (.nx e)
    | some (.rt sh d) => some (.rt sh d)
    | none => none
def mFor (mi : Fi) (tg : Fg) (body : Fs) : Fs := fun env => (mi env).bind fun x => if x.2 then none else forL (fun d e => (tg e d).bind body) x.1 env
theorem drop_cons {α : Type} {xs : List α} {i : Nat} {x : α} (h : xs[i]? = some x) : xs.drop i = x :: xs.drop (i + 1) := by
  obtain ⟨h1, h2⟩ := List.getElem?_eq_some_iff.mp h
  rw [List.drop_eq_getElem_cons h1, h2]
theorem ms_for {tgt iter : Expr} {sl : List Nat} {mi : Fi} {tg : Fg} {body : List Stmt} {f : Fs} (hp : PassesOwn (model X.prog X.w) X.A X.env X.xe) (hc : X.calm = true) (hi : MI X tgt iter mi) (hg : MG X tgt sl tg) (hb : MSs X body f)
    (hs : ∀ x, foldedSetIterable iter X.env x = pure x := by intro _; rfl) : MS X (.For tgt iter body [] pos) (mFor mi tg f) := by
  obtain ⟨ti, pi, oi⟩ := hi.ex
  obtain ⟨tg', pg, og⟩ := hg.ex
  obtain ⟨tb, pb, ob⟩ := hb.ex
  refine ⟨_, ps_for hp hc pi pg pb hs, ?_⟩
  intro He G0 G H σ env F out N g e k
  unfold mFor at e
  cases h1 : mi env with
  | none => rw [h1] at e; cases e
  | some x =>
    obtain ⟨ds, own⟩ := x
    rw [h1] at e
    simp only [Option.bind_some] at e
    cases own with
    | true => cases e
    | false =>
      refine oi He G0 G H σ env F ds false _ g h1 fun J G1 H1 x1 it => ?_
      simp only [Bool.false_eq_true, if_false] at it e
      refine ⟨fun i m σ' H' => ∃ Gi Fi ei, m = ds.length - i ∧ i ≤ ds.length ∧ Good X.K He G0 Gi H' σ' ei Fi ∧ Le G1 Gi ∧ forL (fun d e => (tg e d).bind f) (ds.drop i) ei = some out, ⟨ds.length, G1, F, env, by simp, Nat.zero_le _, g.ext x1, Le.rfl, e⟩, ?_⟩
      rintro i m σ' H' ⟨Gi, Fi, ei, rfl, hi, gi, l, ei'⟩
      by_cases hlt : i < ds.length
      · obtain ⟨d, hd⟩ : ∃ d, ds[i]? = some d := ⟨ds[i], by rw [List.getElem?_eq_getElem hlt]⟩
        obtain ⟨go, yl⟩ := it.go i d Gi H' hd l (l.trans gi.gh) gi.gh
        rw [drop_cons hd] at ei'
        refine .inr ⟨go, fun σ2 H2 => ∃ G2 F2 e2, Good X.K He G0 G2 H2 σ2 e2 F2 ∧ Le G1 G2 ∧ forL (fun d e => (tg e d).bind f) (ds.drop (i + 1)) e2 = some out, ?_, ?_⟩
        · rintro σ2 H2 ⟨G2, F2, e2, g2, l2, q2⟩
          exact ⟨ds.length - (i + 1), by omega, G2, F2, e2, rfl, hlt, g2, l2, q2⟩
        · intro y H2 hy
          obtain ⟨G2, x2, rp⟩ := yl y H2 hy
          unfold forL at ei'
          cases h3 : tg ei d with
          | none => simp [h3] at ei'
          | some e3 =>
            simp only [h3, Option.bind_some] at ei'
            refine og He G0 G2 H2 σ' ei Fi d e3 y _ (gi.ext x2) rp h3 fun σ3 F3 _ g3 => ?_
            cases h4 : f e3 with
            | none => rw [h4] at ei'; cases ei'
            | some w =>
              rw [h4] at ei'
              refine ob He G0 G2 H2 σ3 e3 F3 w _ g3 h4 ?_
              cases w with
              | nx e4 => exact fun G4 H4 σ4 F4 g4 l4 => ⟨G4, F4, e4, g4, (l.trans x2.g).trans l4, ei'⟩
              | ct e4 => exact fun G4 H4 σ4 F4 g4 l4 => ⟨G4, F4, e4, g4, (l.trans x2.g).trans l4, ei'⟩
              | bk e4 =>
                cases ei'
                exact fun G4 H4 σ4 F4 g4 l4 => k G4 H4 σ4 F4 g4 (((x1.g.trans l).trans x2.g).trans l4)
              | rt sh d4 =>
                cases ei'
                exact k
      · have hi' : i = ds.length := by omega
        subst hi'
        refine .inl ⟨it.stop H' (l.trans gi.gh), ?_⟩
        rw [List.drop_length] at ei'
        cases ei'
        exact k Gi H' σ' Fi gi (x1.g.trans l)

/-! ### while -/
def whL (c : Ft) (b : Fs) : Nat → Env → Option Out
  | 0, _ => none
  | n + 1, env => (c env).bind fun x => if x then match b env with
      | some (.nx e) => whL c b n e
      | some (.ct e) => whL c b n e
      | some (.bk e) => some (.nx e)
      | some (.rt sh d) => some (.rt sh d)
      | none => none
    else some (.nx env)
def whFuel : Nat := 1048576
def mWhl (c : Ft) (b : Fs) : Fs := fun env => whL c b whFuel env
theorem whL_mono {c : Ft} {b : Fs} : ∀ {n k : Nat} {env : Env} {o : Out}, n ≤ k → whL c b n env = some o → whL c b k env = some o
  | 0, _, _, _, _, h => by cases h
  | n + 1, 0, _, _, hk, _ => by omega
  | n + 1, k + 1, env, o, hk, h => by
    unfold whL at h ⊢
    cases h1 : c env with
    | none => rw [h1] at h; cases h
    | some x =>
      rw [h1] at h
      simp only [Option.bind_some] at h ⊢
      cases x with
      | false => exact h
      | true =>
        simp only [if_true] at h ⊢
        cases h2 : b env with
        | none => rw [h2] at h; cases h
        | some w =>
          rw [h2] at h
          cases w with
          | nx e => exact whL_mono (by omega) h
          | ct e => exact whL_mono (by omega) h
          | bk e => exact h
          | rt sh d => exact h
theorem ms_while {tc : Ft} {body : List Stmt} {f : Fs} (hp : PassesOwn (model X.prog X.w) X.A X.env X.xe) (hc : MT X c tc) (hb : MSs X body f) : MS X (.While c body [] pos) (mWhl tc f) := by
  obtain ⟨t, pc, oc⟩ := hc.ex
  obtain ⟨tb, pb, ob⟩ := hb.ex
  refine ⟨_, ps_while hp pc pb, ?_⟩
  intro He G0 G H σ env F out N g e k
  refine ⟨fun n σ' H' => ∃ Gi Fi ei, Good X.K He G0 Gi H' σ' ei Fi ∧ Le G Gi ∧ whL tc f n ei = some out, ⟨whFuel, G, F, env, g, Le.rfl, e⟩, ?_⟩
  rintro n σ' H' ⟨Gi, Fi, ei, gi, l, q⟩
  cases n with
  | zero => cases q
  | succ n =>
    unfold whL at q
    cases h1 : tc ei with
    | none => rw [h1] at q; cases q
    | some x =>
      rw [h1] at q
      simp only [Option.bind_some] at q
      refine oc He G0 Gi H' σ' ei Fi x _ gi h1 fun G1 H1 x1 => ?_
      cases x with
      | false =>
        cases q
        exact k G1 H1 σ' Fi (gi.ext x1) (l.trans x1.g)
      | true =>
        simp only [if_true] at q
        rw [if_pos rfl]
        refine ⟨fun σ2 H2 => ∃ G2 F2 e2, Good X.K He G0 G2 H2 σ2 e2 F2 ∧ Le G G2 ∧ whL tc f n e2 = some out, fun σ2 H2 ⟨G2, F2, e2, g2, l2, q2⟩ => ⟨n, Nat.lt_succ_self n, G2, F2, e2, g2, l2, q2⟩, ?_⟩
        cases h2 : f ei with
        | none => rw [h2] at q; cases q
        | some w =>
          rw [h2] at q
          refine ob He G0 G1 H1 σ' ei Fi w _ (gi.ext x1) h2 ?_
          cases w with
          | nx e4 => exact fun G4 H4 σ4 F4 g4 l4 => ⟨G4, F4, e4, g4, (l.trans x1.g).trans l4, q⟩
          | ct e4 => exact fun G4 H4 σ4 F4 g4 l4 => ⟨G4, F4, e4, g4, (l.trans x1.g).trans l4, q⟩
          | bk e4 => cases q; exact fun G4 H4 σ4 F4 g4 l4 => k G4 H4 σ4 F4 g4 ((l.trans x1.g).trans l4)
          | rt sh d4 => cases q; exact k
end
end M

set_option Elab.async false
set_option linter.all false
set_option maxRecDepth 100000
/-! Mini9: list comprehensions. -/
namespace M
open PySem PySem.Spec L2
section
variable {K : PySem.W.Frag} {He G0 G H G' H' G1 H1 G2 H2 H0 : Hp} {σ : L2.St} {env : Env} {F : Fp} {r : R} {v : V}
/-! ### one reading for all contexts -/
def tM (K : PySem.W.Frag) (m : Fm) : TE := fun σ H Q => ∃ He G0 G env F r, Good K He G0 G H σ env F ∧ m env = some r ∧ ∀ v G' H', Ext G H G' H' → Res K H G' H' F r v → Q v H'
theorem ME.can {X : Cx} {e : Expr} {m : Fm} (h : ME X e m) : PE X e (tM X.K m) := by
  obtain ⟨t, p, o⟩ := h.ex
  exact ⟨fun pins s σ H Q I ⟨He, G0, G, env, F, r, g, e, k⟩ => p.run pins s σ H Q I (o He G0 G H σ env F r Q g e k)⟩
def tMT (K : PySem.W.Frag) (m : Ft) : TT := fun σ H Q => ∃ He G0 G env F b, Good K He G0 G H σ env F ∧ m env = some b ∧ ∀ G' H', Ext G H G' H' → Q b H'
theorem MT.can {X : Cx} {e : Expr} {m : Ft} (h : MT X e m) : PT X e (tMT X.K m) := by
  obtain ⟨t, p, o⟩ := h.ex
  exact ⟨fun pins s σ H Q I ⟨He, G0, G, env, F, r, g, e, k⟩ => p.run pins s σ H Q I (o He G0 G H σ env F r Q g e k)⟩
def tMG (K : PySem.W.Frag) (sl : List Nat) (m : Fg) : TG := fun v σ H Q => ∃ He G0 G env F d env', Good K He G0 G H σ env F ∧ Rp K G v d ∧ m env d = some env' ∧ ∀ σ' F', Frm sl σ σ' → Good K He G0 G H σ' env' F' → Q σ' H
theorem MG.can {X : Cx} {e : Expr} {sl : List Nat} {m : Fg} (h : MG X e sl m) : PG X e (tMG X.K sl m) := by
  obtain ⟨t, p, o⟩ := h.ex
  exact ⟨fun pins s σ H v u Q I r ⟨He, G0, G, env, F, d, env', g, rp, e, k⟩ => p.run pins s σ H v u Q I r (o He G0 G H σ env F d env' v Q g rp e k)⟩
/-- the tests of a comprehension -/
structure MTs (X : Cx) (ifs : List Expr) (m : Ft) : Prop where
  can : PTs X ifs (tMT X.K m)
def mYes : Ft := fun _ => some true
theorem mts_nil {X : Cx} : MTs X [] mYes := ⟨⟨fun pins s σ H Q I ⟨He, G0, G, env, F, r, g, e, k⟩ => pts_nil.run pins s σ H Q I (by cases e; exact k G H (Ext.refl g.gh))⟩⟩
theorem mts_one {X : Cx} {c : Expr} {m : Ft} (h : MT X c m) : MTs X [c] m := ⟨pts_one h.can⟩

def wipeE (env : Env) : List Nat → Env
  | [] => env
  | v :: vs => (wipeE env vs).set v none
theorem wipeE_len (env : Env) : ∀ vs : List Nat, (wipeE env vs).length = env.length
  | [] => rfl
  | v :: vs => by unfold wipeE; rw [List.length_set, wipeE_len env vs]
theorem wipeE_get (env : Env) : ∀ (vs : List Nat) (j : Nat) (x : Sh × D), (wipeE env vs)[j]? = some (some x) → j ∉ vs ∧ env[j]? = some (some x)
  | [], _, _, h => ⟨by simp, h⟩
  | v :: vs, j, x, h => by
    unfold wipeE at h
    by_cases e : v = j
    · subst e
      rw [List.getElem?_set_self'] at h
      cases q : (wipeE env vs)[v]? with
      | none => rw [q] at h; cases h
      | some y => rw [q] at h; cases h
    · rw [List.getElem?_set_ne e] at h
      obtain ⟨h1, h2⟩ := wipeE_get env vs j x h
      exact ⟨by simp [h1]; exact fun z => e z.symm, h2⟩
theorem wipeE_keep (env : Env) : ∀ (vs : List Nat) (j : Nat), j ∉ vs → (wipeE env vs)[j]? = env[j]?
  | [], _, _ => rfl
  | v :: vs, j, h => by
    simp at h
    unfold wipeE
    rw [List.getElem?_set_ne (fun z => h.1 z.symm), wipeE_keep env vs j h.2]
theorem wipe_keep (σ : L2.St) : ∀ (vs : List Nat) (j : Nat), j ∉ vs → (wipe σ vs)[j]? = σ[j]?
  | [], _, _ => rfl
  | v :: vs, j, h => by
    simp at h
    unfold wipe
    rw [List.getElem?_set_ne (fun z => h.1 z.symm), wipe_keep σ vs j h.2]
theorem wipe_in (σ : L2.St) : ∀ (vs : List Nat) (j : Nat), j ∈ vs → (wipe σ vs)[j]? = if j < σ.length then some none else none
  | v :: vs, j, h => by
    unfold wipe
    by_cases e : v = j
    · subst e
      rw [List.getElem?_set]
      simp [wipe_length]
    · rw [List.getElem?_set_ne e]
      exact wipe_in σ vs j ((List.mem_cons.mp h).resolve_left fun z => e z.symm)
theorem wipe_frm {σ σ2 : L2.St} {vs sl : List Nat} (f : Frm sl (wipe σ vs) σ2) (hs : ∀ j ∈ sl, j ∈ vs) : wipe σ2 vs = wipe σ vs := by
  apply List.ext_getElem?
  intro j
  by_cases hj : j ∈ vs
  · rw [wipe_in _ _ _ hj, wipe_in _ _ _ hj, f.1, wipe_length]
  · rw [wipe_keep _ _ _ hj, wipe_keep _ _ _ hj, f.2 j (fun z => hj (hs j z)), wipe_keep _ _ _ hj]
theorem Good.wipe (g : Good K He G0 G H σ env F) (vs : List Nat) : Good K He G0 G H (wipe σ vs) (wipeE env vs) (fun j => if j ∈ vs then [] else F j) where
  len := by rw [wipeE_len, wipe_length, g.len]
  slot := fun i sh d h => by
    obtain ⟨h1, h2⟩ := wipeE_get _ _ _ _ h
    obtain ⟨v, hv, o⟩ := g.slot i sh d h2
    exact ⟨v, by rw [wipe_keep _ _ _ h1]; exact hv, by rw [if_neg h1]; exact o⟩
  emp := fun i h => by
    split
    · rfl
    · rename_i hi
      exact g.emp i fun x hx => h x (by rw [wipeE_keep _ _ _ hi]; exact hx)
  nd := fun i => by
    split
    · exact List.nodup_nil
    · exact g.nd i
  dj := fun i j p hij h1 h2 => by
    split at h1
    · cases h1
    · split at h2
      · cases h2
      · exact g.dj i j p hij h1 h2
  out := fun i p h => by
    split at h
    · cases h
    · exact g.out i p h
  he := g.he
  gh := g.gh
  g0g := g.g0g
  g0 := g.g0
/-- an object that is nobody's is changed -/
theorem Good.updN {D : Addr} {ys zs : List V} (g : Good K He G0 G H σ env F) (h1 : He D = none) (h2 : G D = none) (h3 : ∀ i, D ∉ F i) (h4 : H D = none ∨ H D = some (.lst ys)) : Good K He G0 G (upd H D (.lst zs)) σ env F where
  len := g.len
  slot := fun i sh d e => by
    obtain ⟨v, hv, o⟩ := g.slot i sh d e
    refine ⟨v, hv, o.mono Le.rfl (fun a xs q => ?_) fun p hp => upd_ne fun z => h3 i (z ▸ hp)⟩
    rw [upd_ne]; exact q
    rintro rfl
    rcases h4 with h4 | h4 <;> · rw [h4] at q; cases q
  emp := g.emp
  nd := g.nd
  dj := g.dj
  out := g.out
  he := fun a o e => by rw [upd_ne (ne_of_none e h1)]; exact g.he a o e
  gh := fun a o e => by rw [upd_ne (ne_of_none e h2)]; exact g.gh a o e
  g0g := g.g0g
  g0 := g.g0

def lcL (f : D → Option (Option R)) : List D → Option (List R)
  | [] => some []
  | d :: ds => (f d).bind fun x => (lcL f ds).bind fun rs => match x with
    | some r => some (r :: rs)
    | none => some rs
def okE (e : Sh) (r : R) : Bool := r.src.isEmpty && (match e with | .s => true | _ => Sh.beq r.sh e)
def mLc (e : Sh) (mi : Fi) (vs : List Nat) (tg : Fg) (mt : Ft) (me : Fm) : Fm := fun env => (mi env).bind fun x =>
  (lcL (fun d => (tg (wipeE env vs) d).bind fun e1 => (mt e1).bind fun b => if b then (me e1).bind fun r => if okE e r then some (some r) else none else some none) x.1).bind fun rs =>
    if decide (rs.length ≤ sizeLine) then some ⟨.l e, .list (rs.map R.d), []⟩ else none
theorem Owns.app {es fs : List Sh} {vs us : List V} {ds cs : List D} {f g : List Addr} (h : Owns K G H es vs ds f) (h' : Owns K G H fs us cs g) : Owns K G H (es ++ fs) (vs ++ us) (ds ++ cs) (f ++ g) := by
  induction es generalizing vs ds f with
  | nil => cases h; exact h'
  | cons e es ih =>
    cases h with
    | cons a b =>
      rw [List.append_assoc]
      exact .cons a (ih b)
theorem lcL_le {f : D → Option (Option R)} : ∀ {ds : List D} {rs : List R}, lcL f ds = some rs → rs.length ≤ ds.length
  | [], _, h => by cases h; exact Nat.le_refl _
  | d :: ds, rs, h => by
    unfold lcL at h
    cases h1 : f d with
    | none => rw [h1] at h; cases h
    | some x =>
      cases h2 : lcL f ds with
      | none => simp [h1, h2] at h
      | some qs =>
        have := lcL_le h2
        simp only [h1, h2, Option.bind_some] at h
        cases x with
        | none => cases h; simp; omega
        | some r => cases h; simp; omega
end
section
variable {X : Cx} {elt tgt iter : Expr} {ifs : List Expr} {m : Fm} {pos : Pos}
theorem ev_lc {e : Sh} {mi : Fi} {ti : TI} {vs sl : List Nat} {tg : Fg} {mt : Ft} {me : Fm} {K : PySem.W.Frag} (oi : IvOk K mi ti) (hs : ∀ j ∈ sl, j ∈ vs) : EvOk K (mLc e mi vs tg mt me) (tLc ti (tMG K sl tg) (tMT K mt) (tM K me) vs) := by
  intro He G0 G H σ env F r Q g er k
  unfold mLc at er
  cases h1 : mi env with
  | none => rw [h1] at er; cases er
  | some x =>
    obtain ⟨ds, own⟩ := x
    rw [h1] at er
    simp only [Option.bind_some] at er
    generalize hf : (fun d => (tg (wipeE env vs) d).bind fun e1 => (mt e1).bind fun b => if b = true then (me e1).bind fun r => if okE e r = true then some (some r) else none else some none) = f at er
    cases h2 : lcL f ds with
    | none => rw [h2] at er; cases er
    | some rs =>
      rw [h2] at er
      simp only [Option.bind_some] at er
      split at er
      · rename_i hsz
        cases er
        refine oi He G0 G H σ env F ds own _ g h1 fun J G1 H1 x1 it D hD => ?_
        obtain ⟨hD0, hG1D⟩ := x1.none hD
        have hHe : He D = none := by
          cases q : He D with
          | none => rfl
          | some u => rw [g.he D u q] at hD0; cases hD0
        have g1 := g.ext x1
        have gw := g1.wipe vs
        have hDF : ∀ i, D ∉ F i := fun i z => by
          obtain ⟨xs, hx⟩ := g.ownH z
          rw [hx] at hD0; cases hD0
        -- the invariant
        refine ⟨fun i mm H' => mm = ds.length - i ∧ i ≤ ds.length ∧ ∃ Gi acc cs fp rest, Ext G H Gi H' ∧ Le (if own then H1 else G1) H' ∧ Le G1 Gi ∧ Gi D = none ∧ H' D = some (.lst acc) ∧ Owns K Gi H' (List.replicate acc.length e) acc cs fp ∧ fp.Nodup ∧
          (∀ p ∈ fp, H p = none ∧ Gi p = none ∧ p ≠ D) ∧ lcL f (ds.drop i) = some rest ∧ cs ++ rest.map R.d = rs.map R.d ∧ acc.length + rest.length = rs.length, ⟨ds.length, ?_⟩, ?_⟩
        · refine ⟨by simp, Nat.zero_le _, G1, [], [], [], rs, x1.new hD, ?_, Le.rfl, hG1D, upd_same, .nil, List.nodup_nil, fun p z => (nomatch z), h2, rfl, by simp⟩
          split
          · exact le_upd hD
          · exact x1.gh.trans (le_upd hD)
        · rintro i mm H' ⟨rfl, hi, Gi, acc, cs, fp, rest, xi, kB, kG, gD, hDl, ow, nd, hfp, hrest, hcs, hlen⟩
          by_cases hlt : i < ds.length
          · obtain ⟨d, hd⟩ : ∃ d, ds[i]? = some d := ⟨ds[i], by rw [List.getElem?_eq_getElem hlt]⟩
            obtain ⟨go, yl⟩ := it.go i d Gi H' hd kG kB xi.gh
            rw [drop_cons hd] at hrest
            unfold lcL at hrest
            cases h3 : f d with
            | none => rw [h3] at hrest; cases hrest
            | some y =>
              cases h4 : lcL f (ds.drop (i + 1)) with
              | none => simp [h3, h4] at hrest
              | some rest' =>
                simp only [h3, h4, Option.bind_some] at hrest
                refine .inr ⟨go, fun H2 => ∃ mm', mm' < ds.length - i ∧ (mm' = ds.length - (i + 1) ∧ i + 1 ≤ ds.length ∧ ∃ Gi acc cs fp rest, Ext G H Gi H2 ∧ Le (if own then H1 else G1) H2 ∧ Le G1 Gi ∧ Gi D = none ∧ H2 D = some (.lst acc) ∧ Owns K Gi H2 (List.replicate acc.length e) acc cs fp ∧ fp.Nodup ∧
                  (∀ p ∈ fp, H p = none ∧ Gi p = none ∧ p ≠ D) ∧ lcL f (ds.drop (i + 1)) = some rest ∧ cs ++ rest.map R.d = rs.map R.d ∧ acc.length + rest.length = rs.length), fun H2 h => h, ?_⟩
                intro xx H2 hy
                obtain ⟨G2, x2, rp⟩ := yl xx H2 hy
                rw [← hf] at h3
                dsimp only at h3
                cases h5 : tg (wipeE env vs) d with
                | none => rw [h5] at h3; cases h3
                | some e1 =>
                  rw [h5] at h3
                  simp only [Option.bind_some] at h3
                  have gi := ((g.ext xi).wipe vs).ext x2
                  refine ⟨He, G0, G2, _, _, d, e1, gi, rp, h5, fun σ2 F2 fr g2 => ⟨wipe_frm fr hs, ?_⟩⟩
                  cases h6 : mt e1 with
                  | none => rw [h6] at h3; cases h3
                  | some b =>
                    rw [h6] at h3
                    simp only [Option.bind_some] at h3
                    refine ⟨He, G0, G2, e1, F2, b, g2, h6, fun G3 H3 x3 => ?_⟩
                    have k03 : Ext Gi H' G3 H3 := x2.trans x3
                    have own_stay : ∀ {G4 H4 : Hp}, Ext Gi H' G4 H4 → Owns K G4 H4 (List.replicate acc.length e) acc cs fp ∧ (∀ p ∈ fp, H p = none ∧ G4 p = none ∧ p ≠ D) ∧ G4 D = none ∧ H4 D = some (.lst acc) := fun {G4 H4} x4 => by
                      refine ⟨ow.mono x4.g x4.h.tk fun p z => ?_, fun p z => ?_, x4.nog gD hDl, x4.h _ _ hDl⟩
                      · obtain ⟨xs, hx⟩ := ow.inH p z
                        rw [hx, x4.h p _ hx]
                      · obtain ⟨xs, hx⟩ := ow.inH p z
                        exact ⟨(hfp p z).1, x4.nog (hfp p z).2.1 hx, (hfp p z).2.2⟩
                    cases b with
                    | false =>
                      simp only [Bool.false_eq_true, if_false] at h3 ⊢
                      cases h3
                      cases hrest
                      obtain ⟨o4, f4, d4, hd4⟩ := own_stay k03
                      exact ⟨ds.length - (i + 1), by omega, rfl, hlt, G3, acc, cs, fp, _, xi.trans k03, kB.trans k03.h, kG.trans k03.g, d4, hd4, o4, nd, f4, h4, hcs, hlen⟩
                    | true =>
                      rw [if_pos rfl] at h3
                      dsimp only
                      rw [if_pos rfl]
                      cases h7 : me e1 with
                      | none => rw [h7] at h3; cases h3
                      | some r1 =>
                        rw [h7] at h3
                        simp only [Option.bind_some] at h3
                        split at h3
                        · rename_i hok
                          cases h3
                          cases hrest
                          refine ⟨He, G0, G3, e1, F2, r1, g2.ext x3, h7, fun w G4 H4 x4 rr => ?_⟩
                          have k04 := k03.trans x4
                          obtain ⟨o4, f4, d4, hd4⟩ := own_stay k04
                          simp only [okE, Bool.and_eq_true] at hok
                          have hsrc : r1.src = [] := List.isEmpty_iff.mp hok.1
                          refine ⟨acc, hd4, ?_, ?_⟩
                          · have h9 := of_decide_eq_true hsz
                            rw [← hlen] at h9
                            simp at h9
                            omega
                          -- the new item
                          have fin : ∀ {G5 : Hp} {fy : List Addr}, Ext Gi H' G5 H4 → Owns K G5 H4 [e] [w] [r1.d] fy → fy.Nodup → (∀ p ∈ fy, H3 p = none ∧ G5 p = none) →
                              ∃ mm', mm' < ds.length - i ∧ (mm' = ds.length - (i + 1) ∧ i + 1 ≤ ds.length ∧ ∃ Gi acc' cs fp rest, Ext G H Gi (upd H4 D (.lst (acc ++ [w]))) ∧ Le (if own then H1 else G1) (upd H4 D (.lst (acc ++ [w]))) ∧ Le G1 Gi ∧ Gi D = none ∧ upd H4 D (.lst (acc ++ [w])) D = some (.lst acc') ∧
                                Owns K Gi (upd H4 D (.lst (acc ++ [w]))) (List.replicate acc'.length e) acc' cs fp ∧ fp.Nodup ∧ (∀ p ∈ fp, H p = none ∧ Gi p = none ∧ p ≠ D) ∧ lcL f (ds.drop (i + 1)) = some rest ∧ cs ++ rest.map R.d = rs.map R.d ∧ acc'.length + rest.length = rs.length) := by
                            intro G5 fy x5 oy ny hy5
                            obtain ⟨o5, f5, d5, hd5⟩ := own_stay x5
                            have hDH : H D = none := hD0
                            have upx : Ext G H G5 (upd H4 D (.lst (acc ++ [w]))) := by
                              have xx := xi.trans x5
                              exact ⟨xx.g, fun a o q => by rw [upd_ne (ne_of_none q hDH)]; exact xx.h a o q, fun a o q => by rw [upd_ne (ne_of_none q d5)]; exact xx.gh a o q, xx.gn⟩
                            have kB' : Le (if own then H1 else G1) (upd H4 D (.lst (acc ++ [w]))) := by
                              intro a o q
                              have : a ≠ D := by
                                rintro rfl
                                split at q
                                · rw [hD] at q; cases q
                                · rw [hG1D] at q; cases q
                              rw [upd_ne this]
                              exact x5.h a o (kB a o q)
                            have hH3D : ∀ p ∈ fy, p ≠ D := by
                              rintro p z rfl
                              have := (hy5 p z).1
                              rw [k03.h _ _ hDl] at this; cases this
                            have tku : Tk H4 (upd H4 D (.lst (acc ++ [w]))) := fun a xs q => by
                              rw [upd_ne]; exact q
                              rintro rfl
                              rw [hd5] at q; cases q
                            refine ⟨ds.length - (i + 1), by omega, rfl, hlt, G5, acc ++ [w], cs ++ [r1.d], fp ++ fy, rest', upx, kB', kG.trans x5.g, d5, upd_same, ?_, ?_, ?_, h4, ?_, ?_⟩
                            · have := (o5.mono Le.rfl tku (fun p z => upd_ne (f5 p z).2.2)).app (oy.mono Le.rfl tku fun p z => upd_ne (hH3D p z))
                              rw [List.length_append, List.length_singleton, ← List.replicate_append_replicate]
                              exact this
                            · rw [List.nodup_append]
                              refine ⟨nd, ny, ?_⟩
                              rintro p z q zq rfl
                              obtain ⟨xs, hx⟩ := ow.inH p z
                              have := (hy5 p zq).1
                              rw [k03.h _ _ hx] at this; cases this
                            · intro p z
                              rcases List.mem_append.mp z with z | z
                              · exact f5 p z
                              · refine ⟨?_, (hy5 p z).2, hH3D p z⟩
                                cases q : H p with
                                | none => rfl
                                | some u =>
                                  have := (hy5 p z).1
                                  rw [k03.h _ _ (xi.h _ _ q)] at this; cases this
                            · rw [← hcs]; simp
                            · rw [← hlen]; simp; omega
                          obtain ⟨fy, oy, ny, hy⟩ := rr.own
                          rw [hsrc] at hy
                          have hfr : ∀ p ∈ fy, H3 p = none ∧ G4 p = none := fun p z => by
                            rcases hy p z with q | ⟨j, hj, _⟩
                            · exact q
                            · cases hj
                          cases e with
                          | s =>
                            obtain ⟨G5, x5, l5, hd5⟩ := rr.freeze x4 hsrc
                            exact fin (G5 := G5) (fy := []) (k03.trans x5) (.cons (f := []) (fs := []) (.s hd5) .nil) List.nodup_nil (fun p z => nomatch z)
                          | l e' =>
                            have hq := Sh.beq_eq hok.2
                            rw [hq] at oy
                            exact fin (G5 := G4) (fy := fy) k04 (by have := Owns.cons oy (Owns.nil (K := K) (G := G4) (H := H4)); rw [List.append_nil] at this; exact this) ny hfr
                          | t es' =>
                            have hq := Sh.beq_eq hok.2
                            rw [hq] at oy
                            exact fin (G5 := G4) (fy := fy) k04 (by have := Owns.cons oy (Owns.nil (K := K) (G := G4) (H := H4)); rw [List.append_nil] at this; exact this) ny hfr
                        · cases h3
          · have hi' : i = ds.length := by omega
            subst hi'
            refine .inl ⟨it.stop H' kB, ?_⟩
            rw [List.drop_length] at hrest
            cases hrest
            refine k _ Gi H' xi ⟨D :: fp, ?_, List.nodup_cons.mpr ⟨fun z => (hfp D z).2.2 rfl, nd⟩, fun p z => ?_⟩
            · rw [← hcs]
              simp only [List.map_nil, List.append_nil]
              exact .l hDl ow
            · rcases List.mem_cons.mp z with rfl | z
              · exact .inl ⟨hD0, gD⟩
              · exact .inl ⟨(hfp p z).1, (hfp p z).2.1⟩
      · cases er
theorem me_lc {scope : Scope} {own : List (Str × Nat)} {mi : Fi} {e : Sh} {sl : List Nat} {tg : Fg} {mt : Ft} {me : Fm} (hc : X.calm = true) (hN : X.N.Nodup) (hi : MI X tgt iter mi) (ok : BlkOk X.N X.env.scope scope own)
    (hg : ∀ (s : Shared) (H : Hp) (C : Addr) (cl : List (Str × Addr)) (fp : List Addr), MG (X.blk s H scope (compEnvC scope cl C X.env) fp) tgt sl tg)
    (ht : ∀ (s : Shared) (H : Hp) (C : Addr) (cl : List (Str × Addr)) (fp : List Addr), MTs (X.blk s H scope (compEnvC scope cl C X.env) fp) ifs mt)
    (he : ∀ (s : Shared) (H : Hp) (C : Addr) (cl : List (Str × Addr)) (fp : List Addr), ME (X.blk s H scope (compEnvC scope cl C X.env) fp) elt me)
    (hsl : ∀ j ∈ sl, j ∈ own.map (·.2)) (hs : ∀ x, foldedSetIterable iter X.env x = pure x := by intro _; rfl) :
    ME X (.ListComp elt [⟨tgt, iter, ifs, 0⟩] scope pos) (mLc e mi (own.map (·.2)) tg mt me) := by
  obtain ⟨ti, pi, oi⟩ := hi.ex
  exact ⟨_, pe_lc hc hN pi ok (fun s H C cl fp => (hg s H C cl fp).can) (fun s H C cl fp => (ht s H C cl fp).can) (fun s H C cl fp => (he s H C cl fp).can) hs, ev_lc oi hsl⟩
theorem ms_setLc {i : Nat} {y : Str} {py spos : Pos} {scope : Scope} {own : List (Str × Nat)} {mi : Fi} {e : Sh} {sl : List Nat} {tg : Fg} {mt : Ft} {me : Fm} (hc : X.calm = true) (hN : X.N.Nodup) (hy : X.N[i]? = some y) (hyl : X.env.scope.names.lookup y = some .local)
    (hsw : swapsWith (.ListComp elt [⟨tgt, iter, ifs, 0⟩] scope pos) (some (.Name y py)) spos.line X.env = pure true) (hi : MI X tgt iter mi) (ok : BlkOk X.N X.env.scope scope own)
    (hg : ∀ (s : Shared) (H : Hp) (C : Addr) (cl : List (Str × Addr)) (fp : List Addr), MG (X.blk s H scope (compEnvC scope cl C X.env) fp) tgt sl tg)
    (ht : ∀ (s : Shared) (H : Hp) (C : Addr) (cl : List (Str × Addr)) (fp : List Addr), MTs (X.blk s H scope (compEnvC scope cl C X.env) fp) ifs mt)
    (he : ∀ (s : Shared) (H : Hp) (C : Addr) (cl : List (Str × Addr)) (fp : List Addr), ME (X.blk s H scope (compEnvC scope cl C X.env) fp) elt me)
    (hsl : ∀ j ∈ sl, j ∈ own.map (·.2)) (hs : ∀ x, foldedSetIterable iter X.env x = pure x := by intro _; rfl) :
    MS X (.Assign [.Name y py] (.ListComp elt [⟨tgt, iter, ifs, 0⟩] scope pos) spos) (mSet i (xOf (mLc e mi (own.map (·.2)) tg mt me))) := by
  obtain ⟨ti, pi, oi⟩ := hi.ex
  exact ⟨_, ps_setLc hc hN hy hyl hsw pi ok (fun s H C cl fp => (hg s H C cl fp).can) (fun s H C cl fp => (ht s H C cl fp).can) (fun s H C cl fp => (he s H C cl fp).can) hs, st_set (xv_of (ev_lc oi hsl))⟩
theorem ms_setLcF {i : Nat} {y : Str} {py spos : Pos} {scope : Scope} {own : List (Str × Nat)} {mi : Fi} {e : Sh} {sl : List Nat} {tg : Fg} {mt : Ft} {me : Fm} (hc : X.calm = true) (hN : X.N.Nodup) (hy : X.N[i]? = some y) (hyl : X.env.scope.names.lookup y = some .local)
    (hsw : swapsWith (.ListComp elt [⟨tgt, iter, ifs, 0⟩] scope pos) (some (.Name y py)) spos.line X.env = pure true) (hi : MI X tgt iter mi) (ok : BlkOk X.N X.env.scope scope own)
    (hg : ∀ (s : Shared) (H : Hp) (C : Addr) (cl : List (Str × Addr)) (fp : List Addr), MG (X.blk s H scope (compEnvC scope cl C X.env) fp) tgt sl tg)
    (ht : ∀ (s : Shared) (H : Hp) (C : Addr) (cl : List (Str × Addr)) (fp : List Addr), MTs (X.blk s H scope (compEnvC scope cl C X.env) fp) ifs mt)
    (he : ∀ (s : Shared) (H : Hp) (C : Addr) (cl : List (Str × Addr)) (fp : List Addr), ME (X.blk s H scope (compEnvC scope cl C X.env) fp) elt me)
    (hsl : ∀ j ∈ sl, j ∈ own.map (·.2)) (hs : ∀ x, foldedSetIterable iter X.env x = pure x := by intro _; rfl) :
    MS X (.Assign [.Name y py] (.ListComp elt [⟨tgt, iter, ifs, 0⟩] scope pos) spos) (mSetF i (xOf (mLc e mi (own.map (·.2)) tg mt me))) := by
  obtain ⟨ti, pi, oi⟩ := hi.ex
  exact ⟨_, ps_setLc hc hN hy hyl hsw pi ok (fun s H C cl fp => (hg s H C cl fp).can) (fun s H C cl fp => (ht s H C cl fp).can) (fun s H C cl fp => (he s H C cl fp).can) hs, st_setF (xv_of (ev_lc oi hsl))⟩
end
end M

set_option Elab.async false
set_option linter.all false
set_option maxRecDepth 100000
/-! Mini10: lists changed: append, x[i] = v, pop; a def; the law. -/
namespace M
open PySem PySem.Spec L2
/-- the part of a value at a path -/
def subS : Sh → D → List Nat → Option (Sh × D)
  | sh, d, [] => some (sh, d)
  | .l e, .list ds, j :: q => (ds[j]?).bind fun d => subS e d q
  | .t es, .tuple ds, j :: q => (es[j]?).bind fun e => (ds[j]?).bind fun d => subS e d q
  | _, _, _ => none
def setS : D → List Nat → D → D
  | _, [], z => z
  | .list ds, j :: q, z => .list (ds.set j (setS (ds.getD j .none) q z))
  | .tuple ds, j :: q, z => .tuple (ds.set j (setS (ds.getD j .none) q z))
  | d, _, _ => d
section
variable {K : PySem.W.Frag} {He G0 G H G' H' G1 H1 G2 H2 H0 : Hp} {σ : L2.St} {env : Env} {F : Fp} {r : R} {v : V}
/-- down the heap by places -/
def VAt (H : Hp) : V → List Nat → V → Prop
  | v, [], w => v = w
  | v, j :: q, w => ∃ p vs u, v = .ref p ∧ (H p = some (.lst vs) ∨ H p = some (.tup vs)) ∧ vs[j]? = some u ∧ VAt H u q w
theorem VAt.mono (k : Le H H') : ∀ {q : List Nat} {v w : V}, VAt H v q w → VAt H' v q w
  | [], _, _, h => h
  | _ :: _, _, _, ⟨p, vs, u, h1, h2, h3, h4⟩ => ⟨p, vs, u, h1, h2.imp (k _ _) (k _ _), h3, VAt.mono k h4⟩
theorem VAt.inj : ∀ {q : List Nat} {v w w' : V}, VAt H v q w → VAt H v q w' → w = w'
  | [], _, _, _, h, h' => h.symm.trans h'
  | _ :: _, _, _, _, ⟨p, vs, u, h1, h2, h3, h4⟩, ⟨p', vs', u', h1', h2', h3', h4'⟩ => by
    subst h1
    cases h1'
    have : vs = vs' := by
      rcases h2 with h2 | h2 <;> rcases h2' with h2' | h2' <;> rw [h2] at h2' <;> cases h2' <;> rfl
    subst this
    rw [h3] at h3'; cases h3'
    exact h4.inj h4'
theorem VAt.snoc : ∀ {q : List Nat} {v : V} {p : Addr} {vs : List V} {j : Nat} {w : V}, VAt H v q (.ref p) → (H p = some (.lst vs) ∨ H p = some (.tup vs)) → vs[j]? = some w → VAt H v (q ++ [j]) w
  | [], _, p, vs, j, w, h, h2, h3 => ⟨p, vs, w, h, h2, h3, rfl⟩
  | _ :: _, _, _, _, _, _, ⟨p, vs, u, h1, h2, h3, h4⟩, k2, k3 => ⟨p, vs, u, h1, h2, h3, h4.snoc k2 k3⟩
theorem Owns.put {es : List Sh} {vs : List V} {ds : List D} {fp : List Addr} (h : Owns K G H es vs ds fp) {i : Nat} {d : D} (hd : ds[i]? = some d) :
    ∃ e v pre f post, es[i]? = some e ∧ vs[i]? = some v ∧ Own K G H e v d f ∧ fp = pre ++ f ++ post ∧
      ∀ (G' H' : Hp) (d2 : D) (f2 : List Addr), Le G G' → Tk H H' → (∀ p ∈ pre ++ post, H' p = H p) → Own K G' H' e v d2 f2 → Owns K G' H' es vs (ds.set i d2) (pre ++ f2 ++ post) := by
  induction es generalizing vs ds fp i with
  | nil => cases h; simp at hd
  | cons e es ih =>
    cases h with
    | cons a b =>
      rename_i v vs d0 ds f fs
      cases i with
      | zero =>
        simp at hd; subst hd
        refine ⟨e, v, [], f, fs, rfl, rfl, a, by simp, fun G' H' d2 f2 k t hp o => ?_⟩
        exact .cons o (b.mono k t (fun p z => hp p (by simp [z])))
      | succ i =>
        obtain ⟨e', v', pre, f', post, h1, h2, h3, h4, h5⟩ := ih b (by simpa using hd)
        refine ⟨e', v', f ++ pre, f', post, by simpa using h1, by simpa using h2, h3, by rw [h4]; simp [List.append_assoc], fun G' H' d2 f2 k t hp o => ?_⟩
        have := Owns.cons (a.mono k t (fun p z => hp p (by simp [z]))) (h5 G' H' d2 f2 k t (fun p z => hp p (by
          rcases List.mem_append.mp z with z | z <;> simp [z])) o)
        rw [← List.append_assoc, ← List.append_assoc] at this
        exact this
theorem own_at : ∀ {q : List Nat} {sh : Sh} {v : V} {d : D} {fp : List Addr} {sh' : Sh} {d' : D}, Own K G H sh v d fp → subS sh d q = some (sh', d') →
    ∃ w pre f post, VAt H v q w ∧ Own K G H sh' w d' f ∧ fp = pre ++ f ++ post ∧
      ∀ (G' H' : Hp) (d2 : D) (f2 : List Addr), Le G G' → Tk H H' → (∀ p ∈ pre ++ post, H' p = H p) → Own K G' H' sh' w d2 f2 → Own K G' H' sh v (setS d q d2) (pre ++ f2 ++ post)
  | [], sh, v, d, fp, sh', d', o, h => by
    cases h
    exact ⟨v, [], fp, [], rfl, o, by simp, fun G' H' d2 f2 _ _ _ o2 => by simpa [setS] using o2⟩
  | j :: q, _, _, _, _, sh', d', .s _, h => by simp [subS] at h
  | j :: q, _, _, _, _, sh', d', .l (e := e) (p := p) (vs := vs) (ds := ds) (fp := fp) hH os, h => by
    unfold subS at h
    cases hd : ds[j]? with
    | none => rw [hd] at h; cases h
    | some d1 =>
      rw [hd] at h
      have h : subS e d1 q = some (sh', d') := h
      obtain ⟨e1, v1, pre, f, post, he, hv, o1, hf, put⟩ := os.put hd
      have : e1 = e := by
        rw [List.getElem?_replicate] at he
        split at he
        · exact (Option.some.inj he).symm
        · cases he
      subst this
      obtain ⟨w, pre2, f2, post2, hw, o2, hf2, put2⟩ := own_at o1 h
      refine ⟨w, p :: (pre ++ pre2), f2, post2 ++ post, ⟨p, vs, v1, rfl, .inl hH, hv, hw⟩, o2, by rw [hf, hf2]; simp [List.append_assoc], fun G' H' d2 f3 k t hp o3 => ?_⟩
      have hpp : H' p = H p := hp p (by simp)
      have := put G' H' _ _ k t (fun x z => hp x (by rcases List.mem_append.mp z with z | z <;> simp [z])) (put2 G' H' d2 f3 k t (fun x z => hp x (by rcases List.mem_append.mp z with z | z <;> simp [z])) o3)
      have r := Own.l (hpp.trans hH) this
      have e2 : ds.getD j .none = d1 := by rw [List.getD_eq_getElem?_getD, hd]; rfl
      rw [setS, e2]
      simpa [List.append_assoc] using r
  | j :: q, _, _, _, _, sh', d', .t (es := es) (a := a) (vs := vs) (ds := ds) (fp := fp) hH os, h => by
    unfold subS at h
    cases he0 : es[j]? with
    | none => rw [he0] at h; cases h
    | some e =>
      cases hd : ds[j]? with
      | none => simp [he0, hd] at h
      | some d1 =>
        rw [he0, hd] at h
        have h : subS e d1 q = some (sh', d') := h
        obtain ⟨e1, v1, pre, f, post, he, hv, o1, hf, put⟩ := os.put hd
        rw [he0] at he; cases he
        obtain ⟨w, pre2, f2, post2, hw, o2, hf2, put2⟩ := own_at o1 h
        refine ⟨w, pre ++ pre2, f2, post2 ++ post, ⟨a, vs, v1, rfl, .inr hH, hv, hw⟩, o2, by rw [hf, hf2]; simp [List.append_assoc], fun G' H' d2 f3 k t hp o3 => ?_⟩
        have := put G' H' _ _ k t (fun x z => hp x (by rcases List.mem_append.mp z with z | z <;> simp [z])) (put2 G' H' d2 f3 k t (fun x z => hp x (by rcases List.mem_append.mp z with z | z <;> simp [z])) o3)
        have r := Own.t (t _ _ hH) this
        have e2 : ds.getD j .none = d1 := by rw [List.getD_eq_getElem?_getD, hd]; rfl
        rw [setS, e2]
        simpa [List.append_assoc] using r

/-- the list at the path q of the slot i, and what stands when it is changed -/
theorem Good.list {i : Nat} {sh e : Sh} {d : D} {q : List Nat} {ds : List D} (g : Good K He G0 G H σ env F) (hs : env[i]? = some (some (sh, d))) (hq : subS sh d q = some (.l e, .list ds)) :
    ∃ v p vs f0, σ[i]? = some (some v) ∧ VAt H v q (.ref p) ∧ H p = some (.lst vs) ∧ Owns K G H (List.replicate vs.length e) vs ds f0 ∧ f0.Nodup ∧ (∀ x ∈ f0, x ∈ F i) ∧ p ∈ F i ∧ p ∉ f0 ∧
      ∀ vs2 ds2 f2, Owns K G H (List.replicate vs2.length e) vs2 ds2 f2 → f2.Nodup → p ∉ f2 → (∀ x ∈ f2, x ∈ f0 ∨ (He x = none ∧ G x = none ∧ ∀ j, x ∉ F j)) →
        ∃ F2, Good K He G0 G (upd H p (.lst vs2)) σ (env.set i (some (sh, setS d q (.list ds2)))) F2 ∧ (∀ j, j ≠ i → F2 j = F j) ∧ (∀ x, x ∈ F2 i → x ∈ F i ∨ x ∈ f2) ∧ ∀ x, x ∈ f0 → x ∉ f2 → x ∉ F2 i := by
  obtain ⟨v, hv, o⟩ := g.slot i sh d hs
  have hi : i < env.length := (List.getElem?_eq_some_iff.mp hs).1
  obtain ⟨w, pre, f, post, hw, ow, hf, put⟩ := own_at o hq
  have nd := g.nd i
  rw [hf] at nd
  cases ow with
  | l hH os =>
    rename_i p vs f0
    have nd' : (pre ++ ((p :: f0) ++ post)).Nodup := by rw [← List.append_assoc]; exact nd
    obtain ⟨n1, n2, n3⟩ := List.nodup_append.mp nd'
    obtain ⟨n4, n5, n6⟩ := List.nodup_append.mp n2
    obtain ⟨n7, n8⟩ := List.nodup_cons.mp n4
    refine ⟨v, p, vs, f0, hv, hw, hH, os, n8, fun x z => by rw [hf]; simp [z], by rw [hf]; simp, n7, fun vs2 ds2 f2 os2 nd2 hp2 hx2 => ?_⟩
    have hpG : ∀ x ∈ pre ++ post, upd H p (.lst vs2) x = H x := fun x z => upd_ne (by
      rintro rfl
      rcases List.mem_append.mp z with z | z
      · exact n3 x z x (by simp) rfl
      · exact n6 x (by simp) x z rfl)
    have tk : Tk H (upd H p (.lst vs2)) := fun a xs e => by
      rw [upd_ne]; exact e
      rintro rfl
      rw [hH] at e; cases e
    have os2' : Owns K G (upd H p (.lst vs2)) (List.replicate vs2.length e) vs2 ds2 f2 := os2.mono Le.rfl tk fun x z => upd_ne fun q => hp2 (q ▸ z)
    have new := put G (upd H p (.lst vs2)) (.list ds2) (p :: f2) Le.rfl tk hpG (.l upd_same os2')
    have pIn : p ∈ F i := by rw [hf]; simp
    have inI : ∀ x, x ∈ pre ++ (p :: f2) ++ post → x ∈ F i ∨ x ∈ f2 := fun x z => by
      rcases List.mem_append.mp z with z | z
      · rcases List.mem_append.mp z with z | z
        · exact .inl (by rw [hf]; simp [z])
        · rcases List.mem_cons.mp z with rfl | z
          · exact .inl pIn
          · exact .inr z
      · exact .inl (by rw [hf]; simp [z])
    have f2F : ∀ x j, j ≠ i → x ∈ f2 → x ∉ F j := fun x j hj z => by
      rcases hx2 x z with h | h
      · exact g.dj i j x (fun q => hj q.symm) (by rw [hf]; simp [h])
      · exact h.2.2 j
    have f2pre : ∀ x, x ∈ f2 → x ∉ pre ∧ x ∉ post := fun x z => by
      rcases hx2 x z with h | h
      · exact ⟨fun q => n3 x q x (by simp [h]) rfl, fun q => n6 x (by simp [h]) x q rfl⟩
      · have := h.2.2 i
        rw [hf] at this
        exact ⟨fun q => this (by simp [q]), fun q => this (by simp [q])⟩
    refine ⟨fun j => if j = i then pre ++ (p :: f2) ++ post else F j, ⟨by rw [List.length_set, g.len], fun j sh' d' h => ?_, fun j h => ?_, fun j => ?_, fun j k x hjk h1 h2 => ?_, fun j x h => ?_, fun a o e => ?_, fun a o e => ?_, g.g0g, g.g0⟩, fun j hj => if_neg hj, fun x hx => inI x (by dsimp only at hx; rwa [if_pos rfl] at hx), fun x h0 h2 hx => ?_⟩
    · by_cases hj : j = i
      · subst hj
        rw [List.getElem?_set_self hi] at h
        cases h
        exact ⟨v, hv, by rw [if_pos rfl]; exact new⟩
      · rw [List.getElem?_set_ne (fun z => hj z.symm)] at h
        obtain ⟨u, hu, ou⟩ := g.slot j sh' d' h
        refine ⟨u, hu, by rw [if_neg hj]; exact ou.mono Le.rfl tk fun x z => upd_ne fun q => g.dj i j p (fun y => hj y.symm) pIn (q ▸ z)⟩
    · by_cases hj : j = i
      · subst hj
        exact absurd (List.getElem?_set_self hi) (h _)
      · rw [if_neg hj]
        exact g.emp j fun x hx => h x (by rw [List.getElem?_set_ne (fun z => hj z.symm)]; exact hx)
    · split
      · rw [List.append_assoc, List.nodup_append]
        refine ⟨n1, ?_, fun x z y zy e => ?_⟩
        · rw [List.nodup_append]
          refine ⟨List.nodup_cons.mpr ⟨hp2, nd2⟩, n5, fun x z y zy e => ?_⟩
          subst e
          rcases List.mem_cons.mp z with rfl | z
          · exact n6 x (by simp) x zy rfl
          · exact (f2pre x z).2 zy
        · subst e
          rcases List.mem_append.mp zy with zy | zy
          · rcases List.mem_cons.mp zy with rfl | zy
            · exact n3 x z x (by simp) rfl
            · exact (f2pre x zy).1 z
          · exact n3 x z x (by simp [zy]) rfl
      · exact g.nd j
    · have key : ∀ k, k ≠ i → x ∈ pre ++ (p :: f2) ++ post → x ∉ F k := fun k hk z => by
        rcases inI x z with z | z
        · exact g.dj i k x (fun q => hk q.symm) z
        · exact f2F x k hk z
      by_cases hj : j = i
      · rw [if_pos hj] at h1
        have hk : k ≠ i := fun q => hjk (hj.trans q.symm)
        rw [if_neg hk] at h2
        exact key k hk h1 h2
      · rw [if_neg hj] at h1
        by_cases hk : k = i
        · rw [if_pos hk] at h2
          exact key j hj h2 h1
        · rw [if_neg hk] at h2
          exact g.dj j k x hjk h1 h2
    · by_cases hj : j = i
      · rw [if_pos hj] at h
        rcases inI x h with z | z
        · exact g.out i x z
        · rcases hx2 x z with q | q
          · exact g.out i x (by rw [hf]; simp [q])
          · exact ⟨q.1, q.2.1⟩
      · rw [if_neg hj] at h
        exact g.out j x h
    · rw [upd_ne]; exact g.he a o e
      rintro rfl
      rw [(g.out i a pIn).1] at e; cases e
    · rw [upd_ne]; exact g.gh a o e
      rintro rfl
      rw [(g.out i a pIn).2] at e; cases e
    · dsimp only at hx
      rw [if_pos rfl] at hx
      rcases List.mem_append.mp hx with z | z
      · rcases List.mem_append.mp z with z | z
        · exact n3 x z x (by simp [h0]) rfl
        · rcases List.mem_cons.mp z with rfl | z
          · exact n7 h0
          · exact h2 z
      · exact n6 x (by simp [h0]) x z rfl
end
end M

set_option Elab.async false
set_option linter.all false
set_option maxRecDepth 100000
/-! Mini11: statements that change lists; a def; the law. -/
namespace M
open PySem PySem.Spec L2
section
variable {X : Cx} {e a b c : Expr} {es : List Expr} {m ma mb mc : Fm} {mx : Fx} {ms : Fms} {pos p apos cpos : Pos} {x : Str} {i : Nat}
abbrev Fp' := Env → Option (List Nat)
def PvOk (K : PySem.W.Frag) (i : Nat) (m : Fp') (t : TE) : Prop :=
  ∀ (He G0 G H : Hp) (σ : L2.St) (env : Env) (F : Fp) (q : List Nat) (Q : VK), Good K He G0 G H σ env F → m env = some q →
    (∀ v u G' H', Ext G H G' H' → σ[i]? = some (some u) → VAt H' u q v → Q v H') → t σ H Q
structure MP (X : Cx) (e : Expr) (i : Nat) (m : Fp') : Prop where
  ex : ∃ t, PE X e t ∧ PvOk X.K i m t
def pVar (i : Nat) : Fp' := fun env => match env[i]? with
  | some (some _) => some []
  | _ => none
theorem mp_var (i : Nat) {x : Str} {pos : Pos} (hN : X.N[i]? = some x := by rfl) (hv : Vis X.env.scope x := by first | exact Or.inl rfl | exact Or.inr (Or.inl rfl) | exact Or.inr (Or.inr rfl)) (hd : (x == ("__debug__" : Str)) = false := by decide)
    (hcd : (x == ("__classdict__" : Str)) = false := by decide) : MP X (.Name x pos) i (pVar i) := by
  refine ⟨_, pe_var hN hv hd hcd, ?_⟩
  intro He G0 G H σ env F q Q g e k
  unfold pVar at e
  split at e
  · rename_i y h
    obtain ⟨sh, d⟩ := y
    cases e
    obtain ⟨v, hv, _⟩ := g.slot i sh d h
    exact ⟨v, hv, k v v G H (Ext.refl g.gh) hv rfl⟩
  · cases e
/-- the length of what stands at a path -/
def lenAt (env : Env) (i : Nat) (q : List Nat) : Option Nat := match env[i]? with
  | some (some (sh, d)) => (subS sh d q).bind fun y => match y.1, y.2 with
    | .l _, .list ds => some ds.length
    | .t _, .tuple ds => some ds.length
    | _, _ => none
  | _ => none
def pIx (i : Nat) (mp : Fp') (mb : Fm) : Fp' := fun env => (mp env).bind fun q => (mb env).bind fun r => (asI r).bind fun j => (lenAt env i q).bind fun n => (ixN n j).bind fun k => some (q ++ [k])
theorem lenAt_inv {K : PySem.W.Frag} {He G0 G H : Hp} {σ : L2.St} {env : Env} {F : Fp} {q : List Nat} {n : Nat} {u v : V} (g : Good K He G0 G H σ env F) (h : lenAt env i q = some n) (hu : σ[i]? = some (some u)) (hv : VAt H u q v) :
    ∃ p vs, v = .ref p ∧ vs.length = n ∧ (H p = some (.lst vs) ∨ H p = some (.tup vs)) := by
  unfold lenAt at h
  split at h
  · rename_i sh d hs
    cases h1 : subS sh d q with
    | none => rw [h1] at h; cases h
    | some y =>
      obtain ⟨sh', d'⟩ := y
      rw [h1] at h
      simp only [Option.bind_some] at h
      obtain ⟨v0, hv0, o⟩ := g.slot i sh d hs
      rw [hu] at hv0; cases hv0
      obtain ⟨w, pre, f, post, hw, ow, _, _⟩ := own_at o h1
      have := hw.inj hv
      subst this
      split at h
      · cases h
        cases ow with
        | l hH os => exact ⟨_, _, rfl, os.lens, .inl hH⟩
      · cases h
        cases ow with
        | t hH os => exact ⟨_, _, rfl, os.lens, .inr hH⟩
      · cases h
  · cases h
theorem mp_ix {mp : Fp'} (ha : MP X a i mp) (hb : ME X b mb) (hs : PlainIx b) : MP X (.Subscript a b pos) i (pIx i mp mb) := by
  obtain ⟨ta, pa, oa⟩ := ha.ex
  obtain ⟨tb, pb, ob⟩ := hb.ex
  refine ⟨_, pe_ix ixr_ix pa pb hs, ?_⟩
  intro He G0 G H σ env F q Q g e k
  unfold pIx at e
  cases h1 : mp env with
  | none => rw [h1] at e; cases e
  | some q1 =>
    cases h2 : mb env with
    | none => simp [h1, h2] at e
    | some r =>
      cases h3 : asI r with
      | none => simp [h1, h2, h3] at e
      | some j =>
        cases h4 : lenAt env i q1 with
        | none => simp [h1, h2, h3, h4] at e
        | some n =>
          cases h5 : ixN n j with
          | none => simp [h1, h2, h3, h4, h5] at e
          | some jj =>
            simp only [h1, h2, h3, h4, h5, Option.bind_some] at e
            cases e
            refine oa He G0 G H σ env F q1 _ g h1 fun v u G1 H1 x1 hu hv => ?_
            refine ob He G0 G1 H1 σ env F r _ (g.ext x1) h2 fun w G2 H2 x2 rr => ?_
            have g2 := (g.ext x1).ext x2
            have hv2 := hv.mono x2.h
            obtain ⟨p, vs, rfl, hl, hp⟩ := lenAt_inv g2 h4 hu hv2
            have hw := rr.int (asI_inv h3)
            subst hw
            have hj : jj < vs.length := by rw [hl]; exact (ixN_seq h5).2.1
            have hg : vs[jj]? = some vs[jj] := List.getElem?_eq_getElem hj
            have fin : Q vs[jj] H2 := k _ u G2 H2 (x1.trans x2) hu (hv2.snoc hp hg)
            rcases hp with hp | hp
            · exact .inl ⟨p, vs, j, vs[jj], rfl, rfl, .of hp, atI_of hl h5 hg, fin⟩
            · exact .inr (.inl ⟨p, vs, j, vs[jj], rfl, rfl, .of hp, atI_of hl h5 hg, fin⟩)
/-- what stands at the path of a slot -/
def atP (env : Env) (i : Nat) (q : List Nat) : Option (Sh × List D × (D → Env)) := match env[i]? with
  | some (some (sh, d)) => match subS sh d q with
    | some (.l e, .list ds) => some (e, ds, fun z => env.set i (some (sh, setS d q z)))
    | _ => none
  | _ => none
theorem atP_inv {env : Env} {q : List Nat} {e : Sh} {ds : List D} {f : D → Env} (h : atP env i q = some (e, ds, f)) : ∃ sh d, env[i]? = some (some (sh, d)) ∧ subS sh d q = some (.l e, .list ds) ∧ f = fun z => env.set i (some (sh, setS d q z)) := by
  unfold atP at h
  split at h
  · rename_i sh d hs
    split at h
    · rename_i e' ds' h1
      cases h
      exact ⟨sh, d, hs, h1, rfl⟩
    · cases h
  · cases h
theorem rep_snoc {e : Sh} {n : Nat} : List.replicate (n + 1) e = List.replicate n e ++ [e] := by
  rw [← List.replicate_append_replicate]; rfl
/-- x.append(e), at a path -/
def mApp (i : Nat) (mp : Fp') (ma : Fm) : Fx := fun env => (mp env).bind fun q => (ma env).bind fun r => (atP env i q).bind fun y => if okE y.1 r && decide (y.2.1.length < sizeLine) then some (.sha .none, y.2.2 (.list (y.2.1 ++ [r.d]))) else none
theorem nodup_app {f g : List Addr} (h1 : f.Nodup) (h2 : g.Nodup) (h3 : ∀ p ∈ f, p ∉ g) : (f ++ g).Nodup := by
  rw [List.nodup_append]
  exact ⟨h1, h2, fun p z q zq e => h3 p z (e ▸ zq)⟩
theorem mx_append {mp : Fp'} (ha : MP X a i mp) (hb : ME X b mb) (hbase : attributeBase a ("append" : Str) X.env (eval a X.env) = eval a X.env := by rfl)
    (hfew : ((backTo cpos (starEach [b] X.env)).all (fun x => !x.1) && (backToKw cpos (keywordEach [] X.env)).all (fun x => x.1.isSome)
      && decide ([b].length + ([] : List Keyword).length + (if ([] : List Keyword).isEmpty then 0 else 1) < 30)) = true := by rfl)
    (hline : (apos.endLine == cpos.line) = true := by rfl) (hs : starEach [b] X.env = (false, eval b X.env) :: starEach [] X.env := by rfl) (hplain : (backTo cpos (starEach [] X.env)).any (·.1) = false := by rfl) :
    MX X (.Call (.Attribute a "append" apos) [b] [] cpos) (mApp i mp mb) := by
  obtain ⟨ta, pa, oa⟩ := ha.ex
  obtain ⟨tb, pb, ob⟩ := hb.ex
  refine ⟨_, pe_bm PySem.F.plainAttrs_list PySem.F.slot_list_append PySem.F.type_list_append mt_append pa (pa_cons pb pa_nil hs) hbase hfew hline hs hplain, ?_⟩
  intro He G0 G H σ env F r env' Q g e k
  unfold mApp at e
  cases h1 : mp env with
  | none => rw [h1] at e; cases e
  | some q1 =>
    cases h2 : mb env with
    | none => simp [h1, h2] at e
    | some r1 =>
      cases h3 : atP env i q1 with
      | none => simp [h1, h2, h3] at e
      | some y =>
        obtain ⟨es, ds, f⟩ := y
        simp only [h1, h2, h3, Option.bind_some] at e
        split at e
        · rename_i hok
          cases e
          rw [Bool.and_eq_true] at hok
          obtain ⟨ho, hz⟩ := hok
          have hz' : ds.length < sizeLine := of_decide_eq_true hz
          obtain ⟨sh, d, hs1, hs2, rfl⟩ := atP_inv h3
          simp only [okE, Bool.and_eq_true] at ho
          have hsrc : r1.src = [] := List.isEmpty_iff.mp ho.1
          refine oa He G0 G H σ env F q1 _ g h1 fun v u G1 H1 x1 hu hv => ?_
          have g1 := g.ext x1
          obtain ⟨v0, p, vs, f0, hv0, hva, hH, os, n0, hf0, hp, hp0, put⟩ := g1.list hs1 hs2
          rw [hu] at hv0; cases hv0
          have ev := hva.inj hv
          subst ev
          refine ⟨.inl ⟨rfl, vs, .of hH⟩, ?_⟩
          refine ob He G0 G1 H1 σ env F r1 _ g1 h2 fun w G2 H2 x2 rr => ?_
          have hH2 := x2.h _ _ hH
          -- with shared items the new one is shared
          have fin : ∀ {G3 : Hp} {fy : List Addr}, Ext G1 H1 G3 H2 → Owns X.K G3 H2 [es] [w] [r1.d] fy → fy.Nodup → (∀ x ∈ fy, H1 x = none ∧ G3 x = none) →
              rAppend (.ref p) [w] H2 Q := by
            intro G3 fy x3 oy ny hy
            have g3 := g1.ext x3
            obtain ⟨v1, p1, vs1, f1, hv1, hva1, hH1, os1, n1, hf1, hp1, hp01, put1⟩ := g3.list hs1 hs2
            rw [hu] at hv1; cases hv1
            have e1 := (hva.mono x3.h).inj hva1
            cases e1
            rw [hH2] at hH1; cases hH1
            refine ⟨p, vs, w, rfl, rfl, hH2, by rw [os.lens]; exact hz', ?_⟩
            have hyF : ∀ x ∈ fy, ∀ j, x ∉ F j := fun x z j q => by
              obtain ⟨xs, hx⟩ := g1.ownH q
              have := (hy x z).1; rw [hx] at this; cases this
            obtain ⟨F2, g4, _, _⟩ := put1 (vs ++ [w]) (ds ++ [r1.d]) (f1 ++ fy) (by
                have := os1.app oy
                rw [List.length_append, List.length_singleton, rep_snoc]
                exact this) (nodup_app n1 ny fun x z zy => hyF x zy i (hf1 x z)) (fun z => by
                  rcases List.mem_append.mp z with z | z
                  · exact hp01 z
                  · exact hyF p z i hp1) (fun x z => by
                  rcases List.mem_append.mp z with z | z
                  · exact .inl z
                  · refine .inr ⟨?_, (hy x z).2, hyF x z⟩
                    cases q : He x with
                    | none => rfl
                    | some o => have := (hy x z).1; rw [g1.he x o q] at this; cases this)
            exact k .non G3 _ F2 g4 (x1.g.trans x3.g) ⟨[], .s .non, List.nodup_nil, fun p z => nomatch z⟩
          obtain ⟨fy, oy, ny, hy⟩ := rr.own
          rw [hsrc] at hy
          have hfr : ∀ x ∈ fy, H1 x = none ∧ G2 x = none := fun x z => by
            rcases hy x z with q | ⟨j, hj, _⟩
            · exact q
            · cases hj
          cases es with
          | s =>
            obtain ⟨G5, x5, l5, hd5⟩ := rr.freeze x2 hsrc
            exact fin (G3 := G5) (fy := []) x5 (.cons (f := []) (fs := []) (.s hd5) .nil) List.nodup_nil (fun p z => nomatch z)
          | l e' =>
            have hq := Sh.beq_eq ho.2
            rw [hq] at oy
            exact fin (G3 := G2) (fy := fy) x2 (by have := Owns.cons oy (Owns.nil (K := X.K) (G := G2) (H := H2)); rw [List.append_nil] at this; exact this) ny hfr
          | t es' =>
            have hq := Sh.beq_eq ho.2
            rw [hq] at oy
            exact fin (G3 := G2) (fy := fy) x2 (by have := Owns.cons oy (Owns.nil (K := X.K) (G := G2) (H := H2)); rw [List.append_nil] at this; exact this) ny hfr
        · cases e
/-- x[j] = v at a path, shared items -/
def mPut (i : Nat) (mv : Fm) (mp : Fp') (mb : Fm) : Fs := fun env => (mv env).bind fun r => (mp env).bind fun q => (mb env).bind fun rb => (asI rb).bind fun j => (atP env i q).bind fun y => (ixN y.2.1.length j).bind fun k =>
  if okE .s r && Sh.beq y.1 .s then some (.nx (y.2.2 (.list (y.2.1.set k r.d)))) else none
theorem rpAll_set {K : PySem.W.Frag} {G : Hp} {v : V} {d : D} (h : Rp K G v d) : ∀ {vs : List V} {ds : List D} (k : Nat), RpAll K G vs ds → RpAll K G (vs.set k v) (ds.set k d)
  | _, _, _, .nil => .nil
  | _, _, 0, .cons _ t => .cons h t
  | _, _, k + 1, .cons a t => .cons a (rpAll_set h k t)
theorem ms_put {mp : Fp'} {mv : Fm} {tpos : Pos} (hv : ME X e mv) (ha : MP X a i mp) (hb : ME X b mb) (hpg : ∀ {ta tb : TE}, PE X a ta → PE X b tb → PG X (.Subscript a b tpos) (L2.gSub ta tb rSetL))
    (hs : swapsWithSole [.Subscript a b tpos] e pos.line X.env = pure false := by rfl) (hw : swappedStores [.Subscript a b tpos] e X.env = pure none := by rfl)
    (h1 : (assignEach [.Subscript a b tpos] X.env).map (·.2) = [assign (.Subscript a b tpos) X.env] := by rfl) : MS X (.Assign [.Subscript a b tpos] e pos) (mPut i mv mp mb) := by
  obtain ⟨te, pe, oe⟩ := hv.ex
  obtain ⟨ta, pa, oa⟩ := ha.ex
  obtain ⟨tb, pb, ob⟩ := hb.ex
  refine ⟨_, ps_asg pe (hpg pa pb) hs hw h1, ?_⟩
  intro He G0 G H σ env F out N g e' k
  unfold mPut at e'
  cases h1 : mv env with
  | none => rw [h1] at e'; cases e'
  | some r =>
    cases h2 : mp env with
    | none => simp [h1, h2] at e'
    | some q =>
      cases h3 : mb env with
      | none => simp [h1, h2, h3] at e'
      | some rb =>
        cases h4 : asI rb with
        | none => simp [h1, h2, h3, h4] at e'
        | some j =>
          cases h5 : atP env i q with
          | none => simp [h1, h2, h3, h4, h5] at e'
          | some y =>
            obtain ⟨es, ds, f⟩ := y
            cases h6 : ixN ds.length j with
            | none => simp [h1, h2, h3, h4, h5, h6] at e'
            | some kk =>
              simp only [h1, h2, h3, h4, h5, h6, Option.bind_some] at e'
              split at e'
              · rename_i hok
                cases e'
                rw [Bool.and_eq_true] at hok
                have hsh := Sh.beq_eq hok.2
                subst hsh
                simp only [okE, Bool.and_true] at hok
                have hsrc : r.src = [] := List.isEmpty_iff.mp hok.1
                obtain ⟨sh, d, hs1, hs2, rfl⟩ := atP_inv h5
                refine oe He G0 G H σ env F r _ g h1 fun w G1 H1 x1 rr => ?_
                refine oa He G0 G1 H1 σ env F q _ (g.ext x1) h2 fun v u G2 H2 x2 hu hv => ?_
                refine ob He G0 G2 H2 σ env F rb _ ((g.ext x1).ext x2) h3 fun w2 G3 H3 x3 rr3 => ?_
                have x13 := x1.trans (x2.trans x3)
                have rr' := rr.next g x1 (x2.trans x3)
                obtain ⟨G5, x5, l5, hd5⟩ := rr'.freeze x13 hsrc
                have g5 := g.ext x5
                obtain ⟨v1, p1, vs1, f1, hv1, hva1, hH1, os1, n1, hf1, hp1, hp01, put1⟩ := g5.list hs1 hs2
                rw [hu] at hv1; cases hv1
                have e1 := (hv.mono x3.h).inj hva1
                subst e1
                have hw2 := rr3.int (asI_inv h4)
                subst hw2
                obtain ⟨al, rfl⟩ := os1.sall
                refine ⟨p1, vs1, j, kk, rfl, rfl, hH1, by rw [dpAll_len al]; exact h6, ?_⟩
                obtain ⟨F2, g6, _, _⟩ := put1 (vs1.set kk w) (ds.set kk r.d) [] (Owns.ofS (rpAll_set hd5 kk al)) List.nodup_nil (fun z => nomatch z) (fun x z => nomatch z)
                exact k G5 _ σ F2 g6 (x5.g)
              · cases e'
/-- x.pop(), x.pop(j): shared items -/
def mPop (i : Nat) (mp : Fp') : Fx := fun env => (mp env).bind fun q => (atP env i q).bind fun y => if Sh.beq y.1 .s then (y.2.1.getLast?).map fun d => (.sha d, y.2.2 (.list y.2.1.dropLast)) else none
theorem rpAll_dropLast {K : PySem.W.Frag} {G : Hp} {vs : List V} {ds : List D} (h : RpAll K G vs ds) : RpAll K G vs.dropLast ds.dropLast := by
  rw [List.dropLast_eq_take, List.dropLast_eq_take, dpAll_len h]
  exact dpAll_take _ h
theorem mx_pop {mp : Fp'} (ha : MP X a i mp) (hbase : attributeBase a ("pop" : Str) X.env (eval a X.env) = eval a X.env := by rfl) (hline : (apos.endLine == cpos.line) = true := by rfl) :
    MX X (.Call (.Attribute a "pop" apos) [] [] cpos) (mPop i mp) := by
  obtain ⟨ta, pa, oa⟩ := ha.ex
  refine ⟨_, pe_bm0 PySem.F.plainAttrs_list PySem.F.slot_list_pop PySem.F.type_list_pop mt_pop pa hbase hline, ?_⟩
  intro He G0 G H σ env F r env' Q g e k
  unfold mPop at e
  cases h1 : mp env with
  | none => rw [h1] at e; cases e
  | some q1 =>
    cases h3 : atP env i q1 with
    | none => simp [h1, h3] at e
    | some y =>
      obtain ⟨es, ds, f⟩ := y
      simp only [h1, h3, Option.bind_some] at e
      split at e
      · rename_i hok
        have hsh := Sh.beq_eq hok
        subst hsh
        obtain ⟨sh, d, hs1, hs2, rfl⟩ := atP_inv h3
        cases h4 : ds.getLast? with
        | none => rw [h4] at e; cases e
        | some z =>
          rw [h4] at e
          cases e
          refine oa He G0 G H σ env F q1 _ g h1 fun v u G1 H1 x1 hu hv => ?_
          have g1 := g.ext x1
          obtain ⟨v1, p1, vs1, f1, hv1, hva1, hH1, os1, n1, hf1, hp1, hp01, put1⟩ := g1.list hs1 hs2
          rw [hu] at hv1; cases hv1
          have e1 := hv.inj hva1
          subst e1
          obtain ⟨al, rfl⟩ := os1.sall
          have hl := dpAll_len al
          rw [List.getLast?_eq_getElem?] at h4
          obtain ⟨w, hw, hd⟩ := dpAll_get al h4
          refine ⟨.inl ⟨rfl, vs1, .of hH1⟩, p1, vs1, w, rfl, rfl, hH1, by rw [hl]; exact hw, ?_⟩
          obtain ⟨F2, g6, _, _⟩ := put1 vs1.dropLast ds.dropLast [] (Owns.ofS (rpAll_dropLast al)) List.nodup_nil (fun z => nomatch z) (fun x z => nomatch z)
          exact k w G1 _ F2 g6 x1.g ⟨[], .s hd, List.nodup_nil, fun p z => nomatch z⟩
      · cases e
/-- x += e, ints -/
def mAug (i : Nat) (g : Int → Int → Int) (m : Fm) : Fs := fun env => match env[i]? with
  | some (some (.s, .int a)) => (m env).bind fun r => (asI r).bind fun b => (store env i ⟨.s, .int (g a b), []⟩).bind fun e => some (.nx e)
  | _ => none
theorem ms_aug {op : Operator} {gg : Int → Int → Int} {pos' : Pos} (ho : PIp X op (ipI gg)) (hN : X.N.Nodup) (hi : X.N[i]? = some x) (hx : Loc X.env.scope x) (he : ME X e m) (hf : X.fn x = true ∨ X.env.scope.names.lookup x = some .local := by first | exact .inl rfl | exact .inr rfl | assumption) :
    MS X (.AugAssign (.Name x pos') op e pos) (mAug i gg m) := by
  obtain ⟨t, p, o⟩ := he.ex
  refine ⟨_, ps_aug hN hi hx p ho hf, ?_⟩
  intro He G0 G H σ env F out N g e' k
  unfold mAug at e'
  split at e'
  · rename_i a hs
    cases h1 : m env with
    | none => rw [h1] at e'; cases e'
    | some r =>
      cases h2 : asI r with
      | none => simp [h1, h2] at e'
      | some b =>
        simp only [h1, h2, Option.bind_some] at e'
        cases h3 : store env i ⟨.s, .int (gg a b), []⟩ with
        | none => rw [h3] at e'; cases e'
        | some e1 =>
          rw [h3] at e'; cases e'
          obtain ⟨v, hv, ow⟩ := g.slot i _ _ hs
          have hvi : v = .int a := dp_int ow.sinv.1
          subst hvi
          refine ⟨_, hv, o He G0 G H σ env F r _ g h1 fun w G1 H1 x1 rr => ?_⟩
          refine ⟨a, b, rfl, rr.int (asI_inv h2), ?_⟩
          obtain ⟨F', g'⟩ := (g.ext x1).store (r := ⟨.s, .int (gg a b), []⟩) (v := .int (gg a b)) ⟨[], .s (.int _), List.nodup_nil, fun p z => nomatch z⟩ h3
          exact k G1 H1 _ F' g' x1.g
  · cases e'
end

/-! ### a def -/
def runF (n : Nat) (body : Fs) : Fun1 := fun ds => match body (ds.map (fun d => some (Sh.s, d)) ++ List.replicate (n - ds.length) none) with
  | some (.rt sh d) => some (sh, d)
  | some (.nx _) => some (.s, .none)
  | _ => none
section
variable {P : Program} {w : World} {K : PySem.W.Frag} {mg : Str → Option Value} {base : Heap}
theorem good_start {G0 H : Hp} {N : List Str} {vs : List V} {ds : List D} (k : Le G0 H) (h : RpAll K G0 vs ds) : Good K H G0 G0 H (L2.start N vs) (ds.map (fun d => some (Sh.s, d)) ++ List.replicate (N.length - ds.length) none) (fun _ => []) where
  len := by unfold L2.start; simp [dpAll_len h]
  slot := fun i sh d e => by
    by_cases hi : i < ds.length
    · rw [List.getElem?_append_left (by simpa using hi), List.getElem?_map] at e
      cases hd : ds[i]? with
      | none => rw [hd] at e; cases e
      | some d' =>
        rw [hd] at e
        cases e
        obtain ⟨v, hv, rp⟩ := dpAll_get h hd
        refine ⟨v, ?_, .s rp⟩
        unfold L2.start
        rw [List.getElem?_append_left (by have := (List.getElem?_eq_some_iff.mp hv).1; simpa using this), List.getElem?_map, hv]
        rfl
    · rw [List.getElem?_append_right (by simpa using hi), List.getElem?_replicate] at e
      split at e <;> cases e
  emp := fun _ _ => rfl
  nd := fun _ => List.nodup_nil
  dj := fun _ _ _ _ h => by cases h
  out := fun _ _ h => by cases h
  he := Le.rfl
  gh := k
  g0g := Le.rfl
  g0 := fun _ _ e => .inr (.inl e)
theorem fnok_of {x qual : Str} {st : Stmt} {f : Addr} {fd : FuncData} {N ps : List Str} {k : Nat} {body : Fs} (F : L2.Fun K x qual st f fd) (S : FnScope N ps (defScope st))
    (hbody : ∀ (cdv : Value) (A : Around) (outer : List PySem.Env) (s : Shared) (H : Hp) (E : XK), Room k (A.deeper (PyProof.Rows.envOfC qual (defScope st) s.heap.objs.size f cdv)) →
      MSs (cxOf CX0 P w K mg base N qual (defScope st) f cdv A outer s H E).nox (defBody st) body) : FnOk P w K mg base CX0 (k + 1) f fd ps (spM K ps.length (runF N.length body)) := by
  refine F.ok S (fun vs H Q E h => ?_) (fun cdv A outer s H vs Q E hr h => ?_)
  · obtain ⟨G0, ds, r, h1, _, h2, _⟩ := h
    rw [dpAll_len h2, h1]
  · obtain ⟨G0, ds, r, h1, h2, h3, h4, h5⟩ := h
    obtain ⟨t, p, o⟩ := (hbody cdv A outer s H E hr).ex
    refine ⟨t, p, ?_⟩
    unfold runF at h4
    cases h6 : body (ds.map (fun d => some (Sh.s, d)) ++ List.replicate (N.length - ds.length) none) with
    | none => rw [h6] at h4; cases h4
    | some w =>
      rw [h6] at h4
      refine o H G0 G0 H _ _ _ w _ (good_start h2 h3) h6 ?_
      cases w with
      | nx e =>
        cases h4
        exact fun G' H' σ' F' g l => h5 .non G' H' g.he g.gh g.g0g g.g0 ⟨[], .s .non, List.nodup_nil, fun p z => nomatch z⟩
      | rt sh d =>
        cases h4
        exact fun v G' H' fp ow nd hp he gh g0g g0 => h5 v G' H' he gh g0g g0 ⟨fp, ow, nd, hp⟩
      | bk e => cases h4
      | ct e => cases h4
theorem fn_ok {x qual : Str} {st : Stmt} {f : Addr} {fd : FuncData} {N ps : List Str} {k : Nat} {body : Fs} (F : L2.Fun K x qual st f fd) (S : FnScope N ps (defScope st)) (hm : mg x = some (.ref f)) (hb : Binds K fd ps [])
    (hbody : ∀ (cdv : Value) (A : Around) (outer : List PySem.Env) (s : Shared) (H : Hp) (E : XK), Room k (A.deeper (PyProof.Rows.envOfC qual (defScope st) s.heap.objs.size f cdv)) →
      MSs (cxOf CX0 P w K mg base N qual (defScope st) f cdv A outer s H E).nox (defBody st) body) : Fn P w K mg base (k + 1) x ps.length (runF N.length body) := ⟨f, fd, ps, fnok_of F S hbody, hm, F.kp, hb⟩
theorem Fn.mono {j k n : Nat} {x : Str} {m : Fun1} (F : Fn P w K mg base j x n m) (h : j ≤ k) : Fn P w K mg base k x n m := by
  obtain ⟨f, fd, ps, ok, a⟩ := F.ex
  exact ⟨f, fd, ps, ok.mono h, a⟩
def spLaw (K : PySem.W.Frag) : Sp := fun vs H Q _ => ∃ (a : Addr) (ns : List Int), vs = [.ref a] ∧ SqL K H a (ns.map V.int) ∧ ns.length ≤ 63 ∧ ∀ H', Q (.bl true) H'
theorem rp_ints {G : Hp} : ∀ ns : List Int, RpAll K G (ns.map V.int) (ns.map PyData.int)
  | [] => .nil
  | n :: r => .cons (.int n) (rp_ints r)
theorem law_imp {k : Nat} {f : Addr} {fd : FuncData} {ps : List Str} {m : Fun1} (ok : FnOk P w K mg base CX0 k f fd ps (spM K 1 m)) (h : ∀ ns : List Int, ns.length ≤ 63 → ∃ sh, m [.list (ns.map .int)] = some (sh, .bool true)) :
    FnOk P w K mg base CX0 k f fd ps (spLaw K) := by
  refine ok.imp fun vs H Q E q => ?_
  obtain ⟨a, ns, rfl, sq, hl, q⟩ := q
  obtain ⟨sh, hsh⟩ := h ns hl
  refine ⟨H, [.list (ns.map .int)], (sh, .bool true), rfl, Le.rfl, .cons (.lst sq (rp_ints ns)) .nil, hsh, fun v G' H' _ _ _ _ ⟨fp, ow, _, _⟩ => ?_⟩
  have : v = .bl true := by
    dsimp only at ow
    cases ow with
    | s h => cases h; rfl
  subst this
  exact q H'
theorem walk_law {l : PySem.W.OpenLaw} {q : Program} {loose : List Str} {XP : (Str → Option Value) → Heap → Prop} {YP : World → Heap → Prop} {d : DefRec} {K : Params → PySem.W.Frag} {k : Nat} (hn : l.most = some 63) (hdf : d.params.defaults = []) (hr : Room k callerA)
    (hY : ∀ (w : World) (h : Heap), YP w h → (K w.params).In h)
    (F : ∀ (w : World) (mg : Str → Option Value) (fa : Addr) (h : Heap), (K w.params).In h → h.Ns mainGlobals mg → mg d.name = some (.ref fa) →
      ∃ fd : FuncData, (∀ (s : Shared) (u : Value), BindsTo s fd ⟨[u], []⟩ [("script", u)]) ∧ ∀ base : Heap, (K w.params).In base → base.Ns mainGlobals mg → FnOk l.prog w (K w.params) mg base CX0 k fa fd ["script"] (spLaw (K w.params))) :
    PySem.W.WalkO q loose XP YP l.row.toRowW d [] (fun f vs => PySem.call f vs) :=
  L2.walk_of (n := 63) (k := k) (x := "script") (CX := fun _ => CX0) (sp := fun w => spLaw (K w.params)) hn (by decide) hdf hr hY F (fun _ _ a ns hl _ hS => ⟨a, ns, rfl, hS, hl, fun _ => rfl⟩) fun _ _ _ _ _ z => z
end
end M

set_option Elab.async false
set_option linter.all false
set_option maxRecDepth 100000
/-! Mini12: methods with a scalar answer, isinstance, chains, more to walk; short names for the printer. -/
namespace M
open PySem PySem.Spec L2
section
variable {X : Cx} {e a b c tg : Expr} {es : List Expr} {m ma mb mc : Fm} {mx : Fx} {ms : Fms} {pos p apos cpos tpos p2 : Pos} {x : Str} {i : Nat}
/-! ### methods: xs.index(y), xs.count(y) -/
def rMS (K : PySem.W.Frag) (g : D → List D → Option D) : V → List V → Hp → VK → Prop := fun x vs H Q => ∃ d ds r v, Rp K H x d ∧ RpAll K H vs ds ∧ g d ds = some r ∧ Atom r v ∧ Q v H
def mMS (g : D → List D → Option D) (ma : Fm) (ms : Fms) : Fm := fun env => (ma env).bind fun a => (ms env).bind fun rs => (match a.d with | .list _ => g a.d (rs.map R.d) | _ => none).bind fun d => some (.sha d)
theorem ev_MS {K : PySem.W.Frag} {g : D → List D → Option D} {t : TE} {u : TA} (hg : ∀ a b d, g a b = some d → ∃ v, Atom d v) (o : EvOk K ma t) (o' : AvOk K ms u) : EvOk K (mMS g ma ms) (tBM K "list" (rMS K g) t u) := by
  intro He G0 G H σ env F r Q gd e k
  unfold mMS at e
  cases h1 : ma env with
  | none => rw [h1] at e; cases e
  | some ra =>
    cases h2 : ms env with
    | none => simp [h1, h2] at e
    | some rs =>
      simp only [h1, h2, Option.bind_some] at e
      split at e
      · rename_i xs hxs
        cases h3 : g ra.d (rs.map R.d) with
        | none => rw [h3] at e; cases e
        | some d =>
          rw [h3] at e
          cases e
          refine o He G0 G H σ env F ra _ gd h1 fun v G1 H1 x1 r1 => ⟨?_, ?_⟩
          · have := r1.dp x1.gh
            rw [hxs] at this
            cases this with
            | lst s al => exact .inl ⟨rfl, _, s⟩
          · refine o' He G0 G1 H1 σ env F rs _ (gd.ext x1) h2 fun vs G2 H2 x2 r2 => ?_
            obtain ⟨w, hw⟩ := hg _ _ _ h3
            exact ⟨_, _, d, w, dp_mono x2.h (r1.dp x1.gh), r2.dp x2.gh, h3, hw, k w G2 H2 (x1.trans x2) (.ofAtom hw)⟩
      · cases e
def gIndex : D → List D → Option D
  | .list xs, [d] => if min (PyData.depthAll xs) d.depth ≤ 60 then (xs.findIdx? fun y => PyData.eqv y d).map fun j => .int (j : Nat) else none
  | _, _ => none
def gCount : D → List D → Option D
  | .list xs, [d] => if min (PyData.depthAll xs) d.depth ≤ 60 then some (.int ((xs.countP fun y => PyData.eqv y d : Nat) : Int)) else none
  | _, _ => none
theorem gIndex_atom : ∀ a b d, gIndex a b = some d → ∃ v, Atom d v := by
  intro a b d h
  unfold gIndex at h
  split at h
  · split at h
    · cases h1 : (List.findIdx? (fun y => PyData.eqv y _) _) with
      | none => rw [h1] at h; cases h
      | some j => rw [h1] at h; cases h; exact ⟨_, .int _⟩
    · cases h
  · cases h
theorem gCount_atom : ∀ a b d, gCount a b = some d → ∃ v, Atom d v := by
  intro a b d h
  unfold gCount at h
  split at h
  · split at h
    · cases h; exact ⟨_, .int _⟩
    · cases h
  · cases h
theorem mt_indexS (hu : X.A.units + 64 < cLine) : MtR X "list.index" (rMS X.K gIndex) := by
  intro pins s σ H x xs v us Q I rx rxs h
  obtain ⟨d, ds, r, w, hd, hds, hg, hw, q⟩ := h
  unfold gIndex at hg
  split at hg
  · rename_i xs0 y
    split at hg
    · rename_i hm
      cases h1 : (List.findIdx? (fun z => PyData.eqv z y) xs0) with
      | none => rw [h1] at hg; cases hg
      | some j =>
        rw [h1] at hg
        cases hg
        rw [atom_int hw] at q
        cases hds with
        | cons hy t =>
          cases t
          cases rxs with
          | cons ry rt =>
            cases rt
            have hp := dp_plain hd
            rw [PyData.plain] at hp
            cases hd with
            | lst sq al =>
              cases rx
              obtain ⟨its, rv, ⟨⟨cls, dd, data, sls⟩, n, ho, hc, hdn, hdt⟩, hlen⟩ := I.list sq
              simp only at hc hdt
              subst hc hdt
              obtain ⟨as, h4⟩ := Rp.readsAll I xs0 _ its al rv
              obtain ⟨bs, r1⟩ := Rp.reads I y _ _ hy ry
              obtain ⟨hj, hit, hno⟩ := SeqAt.hit_at (vs := its.toArray) (d := y) (show ReadsAll s.heap its.toArray.toList xs0 as from h4) hp h1
              have hvl := rv.length
              have hsl := sizeLine_eq
              have hj' : j < its.length := by simpa using hj
              refine call_meets PySem.F.slot_list_index ⟨_, ho, rfl⟩ PySem.F.entry_list_index (PySem.F.args_list_index_2 _ _)
                (SeqAt.list_indexAt _ its.toArray n dd sls _ (fun u => PyData.eqv (SeqAt.readOf s.heap u) y) j hj (by omega) hit (fun m hm hmj => hno m hm hmj)) ⟨ho, SeqAt.items_plain (vs := its.toArray) (show ReadsAll s.heap its.toArray.toList xs0 as from h4) r1 hp (dp_plain hy) (by omega), ?_⟩
              exact ⟨.int _, H, I.tok _, ⟨_, rfl⟩, q⟩
    · cases hg
  · cases hg
theorem mt_countS (hu : X.A.units + 64 < cLine) : MtR X "list.count" (rMS X.K gCount) := by
  intro pins s σ H x xs v us Q I rx rxs h
  obtain ⟨d, ds, r, w, hd, hds, hg, hw, q⟩ := h
  unfold gCount at hg
  split at hg
  · rename_i xs0 y
    split at hg
    · rename_i hm
      cases hg
      rw [atom_int hw] at q
      cases hds with
      | cons hy t =>
        cases t
        cases rxs with
        | cons ry rt =>
          cases rt
          have hp := dp_plain hd
          rw [PyData.plain] at hp
          cases hd with
          | lst sq al =>
            cases rx
            obtain ⟨its, rv, pl, hlen⟩ := I.list sq
            obtain ⟨as, h4⟩ := Rp.readsAll I xs0 _ its al rv
            obtain ⟨bs, r1⟩ := Rp.reads I y _ _ hy ry
            exact SeqAt.count_list_data (vs := its.toArray) pl.isList (show ReadsAll s.heap its.toArray.toList xs0 as from h4) r1 hp (dp_plain hy) (by omega) ⟨.int _, H, I.tok _, ⟨_, rfl⟩, q⟩
    · cases hg
  · cases hg
theorem me_index (hu : X.A.units + 64 < cLine) (ho : ME X a ma) (ha : MA X [b] ms) (hbase : attributeBase a ("index" : Str) X.env (eval a X.env) = eval a X.env := by rfl)
    (hfew : ((backTo cpos (starEach [b] X.env)).all (fun x => !x.1) && (backToKw cpos (keywordEach [] X.env)).all (fun x => x.1.isSome)
      && decide ([b].length + ([] : List Keyword).length + (if ([] : List Keyword).isEmpty then 0 else 1) < 30)) = true := by rfl)
    (hline : (apos.endLine == cpos.line) = true := by rfl) (hs : starEach [b] X.env = (false, eval b X.env) :: starEach [] X.env := by rfl) (hplain : (backTo cpos (starEach [] X.env)).any (·.1) = false := by rfl) :
    ME X (.Call (.Attribute a "index" apos) [b] [] cpos) (mMS gIndex ma ms) := by
  obtain ⟨ta, pa, oa⟩ := ho.ex
  obtain ⟨tb, pb, ob⟩ := ha.ex
  exact ⟨_, pe_bm PySem.F.plainAttrs_list PySem.F.slot_list_index PySem.F.type_list_index (mt_indexS hu) pa pb hbase hfew hline hs hplain, ev_MS gIndex_atom oa ob⟩
theorem me_count (hu : X.A.units + 64 < cLine) (ho : ME X a ma) (ha : MA X [b] ms) (hbase : attributeBase a ("count" : Str) X.env (eval a X.env) = eval a X.env := by rfl)
    (hfew : ((backTo cpos (starEach [b] X.env)).all (fun x => !x.1) && (backToKw cpos (keywordEach [] X.env)).all (fun x => x.1.isSome)
      && decide ([b].length + ([] : List Keyword).length + (if ([] : List Keyword).isEmpty then 0 else 1) < 30)) = true := by rfl)
    (hline : (apos.endLine == cpos.line) = true := by rfl) (hs : starEach [b] X.env = (false, eval b X.env) :: starEach [] X.env := by rfl) (hplain : (backTo cpos (starEach [] X.env)).any (·.1) = false := by rfl) :
    ME X (.Call (.Attribute a "count" apos) [b] [] cpos) (mMS gCount ma ms) := by
  obtain ⟨ta, pa, oa⟩ := ho.ex
  obtain ⟨tb, pb, ob⟩ := ha.ex
  exact ⟨_, pe_bm PySem.F.plainAttrs_list PySem.F.slot_list_count PySem.F.type_list_count (mt_countS hu) pa pb hbase hfew hline hs hplain, ev_MS gCount_atom oa ob⟩

/-! ### isinstance -/
def tyN : D → String
  | .none => "NoneType"
  | .bool _ => "bool"
  | .int _ => "int"
  | .str _ => "str"
  | .list _ => "list"
  | .tuple _ => "tuple"
  | .dict _ => "dict"
def mIsi (T : String) (m : Fm) : Fm := fun env => (m env).bind fun r => (kitB (tyN r.d) T).map fun b => .sha (.bool b)
theorem rp_ty {K : PySem.W.Frag} {H : Hp} {v : V} {d : D} (h : Rp K H v d) : TyX K H v (.type (tyN d)) := by
  cases h with
  | non => exact .base .non
  | bl b => exact .base (.bl b)
  | int i => exact .base (.int i)
  | str x => exact .base (.str x)
  | lst s al =>
    rcases s with (s | ⟨o, s⟩) | ⟨o, its, n, h1, h2, _⟩
    · exact .base (.lst s)
    · exact .base (.frz s)
    · exact .kList h1 h2
  | tup s al =>
    rcases s with s | ⟨o, its, n, h1, h2, _⟩
    · exact .base (.tup s)
    · exact .kTuple h1 h2
theorem me_isi {T : String} {y : Str} {q : Pos} (hm : X.mg "isinstance" = none) (hmT : X.mg y = none) (hv : bootBuiltins y = some (.type T)) (ha : ME X a ma) (hgl : Gl X "isinstance" := by rfl) (hgT : Gl X y := by rfl)
    (hn : y ≠ "__name__" := by decide) (hd : (y == ("__debug__" : Str)) = false := by decide)
    (he : starEach [a, .Name y q] X.env = (false, eval a X.env) :: starEach [.Name y q] X.env := by rfl) (he2 : starEach [.Name y q] X.env = (false, eval (.Name y q) X.env) :: starEach [] X.env := by rfl) (hpl : (backTo pos (starEach [.Name y q] X.env)).any (·.1) = false := by rfl) :
    ME X (.Call (.Name "isinstance" p) [a, .Name y q] [] pos) (mIsi T ma) := by
  obtain ⟨t, pa, o⟩ := ha.ex
  refine ⟨_, pe_callB call_isi hgl hm PyProof.Rows.boot_isinstance (pa_cons pa (pa_cons (pe_bltn (v := .ty T) hgT hmT hv rfl hn hd) pa_nil he2) he) (by decide) (by decide) he hpl, ?_⟩
  intro He G0 G H σ env F r Q g e k
  unfold mIsi at e
  cases h1 : ma env with
  | none => rw [h1] at e; cases e
  | some r1 =>
    cases h2 : kitB (tyN r1.d) T with
    | none => simp [h1, h2] at e
    | some bb =>
      simp only [h1, h2, Option.bind_some, Option.map_some] at e
      cases e
      exact o He G0 G H σ env F r1 _ g h1 fun v G1 H1 x1 rr => ⟨v, .ty T, _, _, bb, rfl, .ty T, rp_ty (rr.dp x1.gh), kit_ty h2, k _ G1 H1 x1 (.ofAtom (.bl _))⟩
theorem kit_list (d : D) : kitB (tyN d) "list" = some (match d with | .list _ => true | _ => false) := by
  cases d <;> (simp only [tyN]; decide +kernel)
theorem kit_tuple (d : D) : kitB (tyN d) "tuple" = some (match d with | .tuple _ => true | _ => false) := by
  cases d <;> (simp only [tyN]; decide +kernel)
theorem kit_int (d : D) : kitB (tyN d) "int" = some (match d with | .int _ => true | .bool _ => true | _ => false) := by
  cases d <;> (simp only [tyN]; decide +kernel)
theorem kit_bool (d : D) : kitB (tyN d) "bool" = some (match d with | .bool _ => true | _ => false) := by
  cases d <;> (simp only [tyN]; decide +kernel)
theorem kit_str (d : D) : kitB (tyN d) "str" = some (match d with | .str _ => true | _ => false) := by
  cases d <;> (simp only [tyN]; decide +kernel)

/-! ### a < b < c -/
theorem ev_chain {K : PySem.W.Frag} {r r' : R2} {f g : R → R → Option R} {ta tb tc : TE} (o1 : O2 K r f) (o2 : O2 K r' g) (oa : EvOk K ma ta) (ob : EvOk K mb tb) (oc : EvOk K mc tc) : EvOk K (m3 f g ma mb mc) (tChain r r' ta tb tc) := by
  intro He G0 G H σ env F rr Q gd e k
  unfold m3 at e
  cases h1 : ma env with
  | none => rw [h1] at e; cases e
  | some x =>
    cases h2 : mb env with
    | none => simp [h1, h2] at e
    | some y =>
      cases h3 : f x y with
      | none => simp [h1, h2, h3] at e
      | some z =>
        cases h4 : asB z with
        | none => simp [h1, h2, h3, h4] at e
        | some kk =>
          simp only [h1, h2, h3, h4, Option.bind_some] at e
          refine oa He G0 G H σ env F x _ gd h1 fun v G1 H1 x1 r1 => ?_
          refine ob He G0 G1 H1 σ env F y _ (gd.ext x1) h2 fun u G2 H2 x2 r2 => ?_
          refine o1 H G2 H2 F v u x y z _ G (x1.trans x2) (r1.next gd x1 x2) (r2.back x1.h) h3 fun w G3 H3 x3 x23 r3 => ?_
          refine ⟨kk, r3.bl (asB_inv h4), ?_⟩
          cases kk with
          | false =>
            cases e
            rw [if_neg Bool.false_ne_true]
            exact k _ G3 H3 x3 (.ofAtom (.bl _))
          | true =>
            rw [if_pos rfl] at e ⊢
            cases h5 : mc env with
            | none => rw [h5] at e; cases e
            | some cc =>
              rw [h5] at e
              refine oc He G0 G3 H3 σ env F cc _ (gd.ext x3) h5 fun q G4 H4 x4 r4 => ?_
              have x34 := x3.trans x4
              have ry := (r2.back x1.h).next gd (x1.trans x2) (x23.trans x4)
              exact o2 H G4 H4 F u q y cc rr Q G x34 ry (r4.back x3.h) e fun w5 G5 H5 x5 _ r5 => k w5 G5 H5 x5 r5
theorem me_chain {op op' : CmpOp} {r r' : R2} {f g : R → R → Option R} (ho : OpR X (compareOp op) r) (ho' : OpR X (compareOp op') r') (o1 : O2 X.K r f) (o2 : O2 X.K r' g) (ha : ME X a ma) (hb : ME X b mb) (hc : ME X c mc)
    (hm : lastMarks [op, op'] [b, c] = false := by with_unfolding_all rfl) : ME X (.Compare a [op, op'] [b, c] pos) (m3 f g ma mb mc) := by
  obtain ⟨ta, pa, oa⟩ := ha.ex
  obtain ⟨tb, pb, ob⟩ := hb.ex
  obtain ⟨tc, pc, oc⟩ := hc.ex
  exact ⟨_, pe_chain ho ho' pa pb pc hm, ev_chain o1 o2 oa ob oc⟩
theorem mt_chain {op op' : CmpOp} {r r' : R2} {f g : R → R → Option R} (ho : OpR X (compareOp op) r) (ho' : OpR X (compareOp op') r') (o1 : O2 X.K r f) (o2 : O2 X.K r' g) (ha : ME X a ma) (hb : ME X b mb) (hc : ME X c mc)
    (hm : lastMarks [op, op'] [b, c] = false := by with_unfolding_all rfl) : MT X (.Compare a [op, op'] [b, c] pos) (mTv (m3 f g ma mb mc)) := by
  obtain ⟨ta, pa, oa⟩ := ha.ex
  obtain ⟨tb, pb, ob⟩ := hb.ex
  obtain ⟨tc, pc, oc⟩ := hc.ex
  exact ⟨_, pt_chain ho ho' pa pb pc hm, tv_of (ev_chain o1 o2 oa ob oc)⟩

/-! ### enumerate, zip, reversed -/
def enumD : Nat → List D → List D
  | _, [] => []
  | i, d :: ds => .tuple [.int (i : Nat), d] :: enumD (i + 1) ds
theorem enumD_get : ∀ {ds : List D} {k i : Nat} {d : D}, (enumD k ds)[i]? = some d → ∃ y, ds[i]? = some y ∧ d = .tuple [.int ((k + i : Nat) : Int), y]
  | [], _, _, _, h => by simp [enumD] at h
  | y :: ds, k, 0, d, h => by simp [enumD] at h; exact ⟨y, rfl, by simp [h]⟩
  | y :: ds, k, i + 1, d, h => by
    obtain ⟨z, h1, h2⟩ := enumD_get (ds := ds) (k := k + 1) (i := i) (by simpa [enumD] using h)
    exact ⟨z, by simpa using h1, by rw [h2]; simp; omega⟩
theorem enumD_len : ∀ (ds : List D) (k : Nat), (enumD k ds).length = ds.length
  | [], _ => rfl
  | d :: ds, k => by rw [enumD, List.length_cons, List.length_cons, enumD_len ds]
theorem newTup {K : PySem.W.Frag} {G1 H1 : Hp} {T : Addr} {vs : List V} {ds : List D} (k : Le G1 H1) (hT : H1 T = none) (al : RpAll K G1 vs ds) : ∃ G2, Ext G1 H1 G2 (upd H1 T (.tup vs)) ∧ Rp K G2 (.ref T) (.tuple ds) := by
  obtain ⟨G3, x3, r3⟩ := Res.newT (K := K) (F := fun _ => []) (Ext.refl k) hT al
  exact ⟨G3, x3, r3.sdp rfl⟩
theorem it_enum {K : PySem.W.Frag} {G B : Hp} {a : Addr} {us : List V} {ds : List D} (hr : SqL K B a us) (al : RpAll K G us ds) : ItOk K G B (Ite K a) (enumD 0 ds) where
  go := fun i d G1 H1 h k1 k2 k3 => by
    obtain ⟨y, hy, rfl⟩ := enumD_get h
    obtain ⟨x, hx, hd⟩ := dpAll_get al hy
    have sq : SqL K H1 a us := sql_mono k2 hr
    refine ⟨⟨us, x, sq, hx⟩, fun z H2 hz => ?_⟩
    obtain ⟨T, x', rfl, hT, rfl, hx'⟩ := hz
    have e := hx' us sq
    rw [hx] at e; cases e
    rw [Nat.zero_add]
    exact newTup k3 hT (.cons (.int _) (.cons (dp_mono k1 hd) .nil))
  stop := fun H1 k => ⟨us, sql_mono k hr, by rw [enumD_len, dpAll_len al]; exact Nat.le_refl _⟩
def ownB (r : R) : Bool := !r.src.isEmpty
def iEn (m : Fm) : Fi := fun env => (m env).bind fun r => (elemsL r).map fun ds => (enumD 0 ds, ownB r)
/-- a list's items, frozen if the list is new -/
theorem srcL {K : PySem.W.Frag} {He G0 G H G1 H1 : Hp} {σ : L2.St} {env : Env} {F : Fp} {r : R} {v : V} {ds : List D} (x : Ext G H G1 H1) (rr : Res K H G1 H1 F r v) (e : elemsL r = some ds) :
    ∃ a us G2, v = .ref a ∧ Ext G H G2 H1 ∧ Le G1 G2 ∧ SqL K (if ownB r then H1 else G2) a us ∧ RpAll K G2 us ds ∧ SqL K H1 a us := by
  unfold ownB
  cases hs : r.src.isEmpty with
  | true =>
    obtain ⟨G2, x2, l2, hd⟩ := rr.freeze x (List.isEmpty_iff.mp hs)
    have : r.d = .list ds := by rcases elemsL_inv e with ⟨_, h⟩ | ⟨_, h⟩ <;> exact h
    rw [this] at hd
    cases hd with
    | lst s al => exact ⟨_, _, G2, rfl, x2, l2, s, al, sql_mono x2.gh s⟩
  | false =>
    obtain ⟨us, a, rfl, s, al⟩ := rr.itemsL x.gh e
    exact ⟨a, us, G1, rfl, x, Le.rfl, s, al, s⟩
theorem mi_enum {elts : List Expr} {kk : Nat} (hm : X.mg "enumerate" = none) (ha : ME X a ma) (hg : Gl X "enumerate" := by rfl) (hs : starEach [a] X.env = [(false, eval a X.env)] := by rfl) :
    MI X (.Tuple elts kk tpos) (.Call (.Name "enumerate" p) [a] [] pos) (iEn ma) := by
  obtain ⟨t, pa, o⟩ := ha.ex
  refine ⟨_, pi_enum hg hm (pa_cons pa pa_nil hs) hs, ?_⟩
  intro He G0 G H σ env F ds own Q g e k
  unfold iEn at e
  cases h1 : ma env with
  | none => rw [h1] at e; cases e
  | some r =>
    cases h2 : elemsL r with
    | none => simp [h1, h2] at e
    | some es =>
      simp only [h1, h2, Option.bind_some, Option.map_some] at e
      cases e
      refine o He G0 G H σ env F r _ g h1 fun v G1 H1 x1 rr => ?_
      obtain ⟨a, us, G2, rfl, x2, _, sB, al, sH⟩ := srcL (He := He) (G0 := G0) (σ := σ) (env := env) x1 rr h2
      exact ⟨a, us, rfl, sH, k _ G2 H1 x2 (it_enum sB al)⟩
def zipD : List D → List D → List D
  | a :: as, b :: bs => .tuple [a, b] :: zipD as bs
  | _, _ => []
theorem zipD_get : ∀ {as bs : List D} {i : Nat} {d : D}, (zipD as bs)[i]? = some d → ∃ y z, as[i]? = some y ∧ bs[i]? = some z ∧ d = .tuple [y, z]
  | [], _, _, _, h => by simp [zipD] at h
  | _ :: _, [], _, _, h => by simp [zipD] at h
  | y :: as, z :: bs, 0, d, h => by simp [zipD] at h; exact ⟨y, z, rfl, rfl, h.symm⟩
  | y :: as, z :: bs, i + 1, d, h => by
    obtain ⟨u, w, h1, h2, h3⟩ := zipD_get (as := as) (bs := bs) (i := i) (by simpa [zipD] using h)
    exact ⟨u, w, by simpa using h1, by simpa using h2, h3⟩
theorem zipD_len : ∀ (as bs : List D), as.length ≤ (zipD as bs).length ∨ bs.length ≤ (zipD as bs).length
  | [], _ => .inl (Nat.zero_le _)
  | _ :: _, [] => .inr (Nat.zero_le _)
  | a :: as, b :: bs => by
    rw [zipD]
    rcases zipD_len as bs with h | h
    · exact .inl (Nat.succ_le_succ h)
    · exact .inr (Nat.succ_le_succ h)
theorem it_zip {K : PySem.W.Frag} {G B : Hp} {a b : Addr} {us ws : List V} {ds cs : List D} (hr : SqL K B a us) (hr2 : SqL K B b ws) (al : RpAll K G us ds) (al2 : RpAll K G ws cs) : ItOk K G B (Itz K a b) (zipD ds cs) where
  go := fun i d G1 H1 h k1 k2 k3 => by
    obtain ⟨y, z, hy, hz, rfl⟩ := zipD_get h
    obtain ⟨x, hx, hd⟩ := dpAll_get al hy
    obtain ⟨x2, hx2, hd2⟩ := dpAll_get al2 hz
    have sq : SqL K H1 a us := sql_mono k2 hr
    have sq2 : SqL K H1 b ws := sql_mono k2 hr2
    refine ⟨⟨us, ws, x, x2, sq, sq2, hx, hx2⟩, fun q H2 hq => ?_⟩
    obtain ⟨T, x', y', rfl, hT, rfl, hx', hy'⟩ := hq
    have e := hx' us sq
    rw [hx] at e; cases e
    have e := hy' ws sq2
    rw [hx2] at e; cases e
    exact newTup k3 hT (.cons (dp_mono k1 hd) (.cons (dp_mono k1 hd2) .nil))
  stop := fun H1 k => ⟨us, ws, sql_mono k hr, sql_mono k hr2, by rw [dpAll_len al, dpAll_len al2]; exact zipD_len ds cs⟩
def iZp (ma mb : Fm) : Fi := fun env => (ma env).bind fun a => (mb env).bind fun b => (elemsL a).bind fun ds => (elemsL b).bind fun cs => some (zipD ds cs, ownB a || ownB b)
theorem mi_zip {elts : List Expr} {kk : Nat} (hm : X.mg "zip" = none) (ha : ME X a ma) (hb : ME X b mb) (hg : Gl X "zip" := by rfl) (hs : starEach [a, b] X.env = (false, eval a X.env) :: starEach [b] X.env := by rfl)
    (hs2 : starEach [b] X.env = (false, eval b X.env) :: starEach [] X.env := by rfl) (hpl : (backTo pos (starEach [b] X.env)).any (·.1) = false := by rfl) :
    MI X (.Tuple elts kk tpos) (.Call (.Name "zip" p) [a, b] [] pos) (iZp ma mb) := by
  obtain ⟨t, pa, o⟩ := ha.ex
  obtain ⟨u, pb, o'⟩ := hb.ex
  refine ⟨_, pi_zip hg hm (pa_cons pa (pa_cons pb pa_nil hs2) hs) hs hpl, ?_⟩
  intro He G0 G H σ env F ds own Q g e k
  unfold iZp at e
  cases h1 : ma env with
  | none => rw [h1] at e; cases e
  | some ra =>
    cases h2 : mb env with
    | none => simp [h1, h2] at e
    | some rb =>
      cases h3 : elemsL ra with
      | none => simp [h1, h2, h3] at e
      | some as =>
        cases h4 : elemsL rb with
        | none => simp [h1, h2, h3, h4] at e
        | some bs =>
          simp only [h1, h2, h3, h4, Option.bind_some] at e
          cases e
          refine o He G0 G H σ env F ra _ g h1 fun v G1 H1 x1 rr => ?_
          obtain ⟨a', us, G2, rfl, x2, l2, sB, al, sH⟩ := srcL (He := He) (G0 := G0) (σ := σ) (env := env) x1 rr h3
          refine o' He G0 G2 H1 σ env F rb _ (g.ext x2) h2 fun w G3 H3 x3 rr3 => ?_
          obtain ⟨b', ws, G4, rfl, x4, l4, sB4, al4, sH4⟩ := srcL (He := He) (G0 := G0) (σ := σ) (env := env) x3 rr3 h4
          have x24 := x2.trans x4
          refine ⟨a', b', us, ws, rfl, sql_mono x4.h sH, sH4, k _ G4 H3 x24 (it_zip ?_ ?_ (dpAll_mono x4.g al) al4)⟩
          · cases hA : ownB ra <;> cases hB : ownB rb <;> simp only [hA, hB, Bool.or_true, Bool.or_false, Bool.false_eq_true, if_true, if_false] at sB sB4 ⊢
            · exact sql_mono x4.g sB
            · exact sql_mono x4.h sH
            · exact sql_mono x4.h sB
            · exact sql_mono x4.h sB
          · cases hA : ownB ra <;> cases hB : ownB rb <;> simp only [hA, hB, Bool.or_true, Bool.or_false, Bool.false_eq_true, if_true, if_false] at sB sB4 ⊢
            · exact sB4
            · exact sB4
            · exact sH4
            · exact sB4
theorem it_rev {K : PySem.W.Frag} {G B : Hp} {a : Addr} {us : List V} {ds : List D} (hr : SqL K B a us) (al : RpAll K G us ds) : ItOk K G B (Itv K a us.length) ds.reverse where
  go := fun i d G1 H1 h k1 k2 k3 => by
    have hi : i < ds.length := by have := (List.getElem?_eq_some_iff.mp h).1; simpa using this
    have hl := dpAll_len al
    rw [List.getElem?_reverse hi] at h
    obtain ⟨x, hx, hd⟩ := dpAll_get al h
    have sq : SqL K H1 a us := sql_mono k2 hr
    have e2 : us.length - 1 - i = ds.length - 1 - i := by rw [hl]
    refine ⟨⟨by omega, us, x, sq, by rw [e2]; exact hx⟩, fun z H2 hz => ?_⟩
    obtain ⟨rfl, hx'⟩ := hz
    have e := hx' us sq
    rw [e2, hx] at e; cases e
    exact ⟨G1, Ext.refl k3, dp_mono k1 hd⟩
  stop := fun H1 k => by rw [List.length_reverse, dpAll_len al]; exact Nat.le_refl _
def iRv (m : Fm) : Fi := fun env => (m env).bind fun r => (elemsL r).map fun ds => (ds.reverse, ownB r)
theorem mi_rev (hm : X.mg "reversed" = none) (ha : ME X a ma) (hg : Gl X "reversed" := by rfl) (hs : starEach [a] X.env = [(false, eval a X.env)] := by rfl) :
    MI X tg (.Call (.Name "reversed" p) [a] [] pos) (iRv ma) := by
  obtain ⟨t, pa, o⟩ := ha.ex
  refine ⟨_, pi_reversed hg hm (pa_cons pa pa_nil hs) hs, ?_⟩
  intro He G0 G H σ env F ds own Q g e k
  unfold iRv at e
  cases h1 : ma env with
  | none => rw [h1] at e; cases e
  | some r =>
    cases h2 : elemsL r with
    | none => simp [h1, h2] at e
    | some es =>
      simp only [h1, h2, Option.bind_some, Option.map_some] at e
      cases e
      refine o He G0 G H σ env F r _ g h1 fun v G1 H1 x1 rr => ?_
      obtain ⟨a, us, G2, rfl, x2, _, sB, al, sH⟩ := srcL (He := He) (G0 := G0) (σ := σ) (env := env) x1 rr h2
      exact ⟨a, us, rfl, sH, k _ G2 H1 x2 (it_rev sB al)⟩

/-! ### short names -/
theorem me_eq (hu : X.A.units + 64 < cLine) (ha : ME X a ma) (hb : ME X b mb) : ME X (.Compare a [.Eq] [b] pos) (m2 (g2S gEq) ma mb) := me_cmp (op_eqS hu) o2_eq ha hb (nomark _)
theorem me_ne (hu : X.A.units + 64 < cLine) (ha : ME X a ma) (hb : ME X b mb) : ME X (.Compare a [.NotEq] [b] pos) (m2 (g2S gNe) ma mb) := me_cmp (op_neS hu) o2_ne ha hb (nomark _)
theorem me_in (hu : X.A.units + 64 < cLine) (ha : ME X a ma) (hb : ME X b mb) (hm : behindInMarks .In b = false := by rfl) : ME X (.Compare a [.In] [b] pos) (m2 (g2S gIn) ma mb) := me_cmp (op_inS hu) o2_in ha hb hm
theorem me_notin (hu : X.A.units + 64 < cLine) (ha : ME X a ma) (hb : ME X b mb) (hm : behindInMarks .NotIn b = false := by rfl) : ME X (.Compare a [.NotIn] [b] pos) (m2 (g2S gNotIn) ma mb) := me_cmp (op_notinS hu) o2_notin ha hb hm
theorem me_lt (ha : ME X a ma) (hb : ME X b mb) : ME X (.Compare a [.Lt] [b] pos) (m2 gLt ma mb) := me_cmp op_lt o2_lt ha hb (nomark _)
theorem me_le (ha : ME X a ma) (hb : ME X b mb) : ME X (.Compare a [.LtE] [b] pos) (m2 gLe ma mb) := me_cmp op_le o2_le ha hb (nomark _)
theorem me_gt (ha : ME X a ma) (hb : ME X b mb) : ME X (.Compare a [.Gt] [b] pos) (m2 gGt ma mb) := me_cmp op_gt o2_gt ha hb (nomark _)
theorem me_ge (ha : ME X a ma) (hb : ME X b mb) : ME X (.Compare a [.GtE] [b] pos) (m2 gGe ma mb) := me_cmp op_ge o2_ge ha hb (nomark _)
theorem mt_eq (hu : X.A.units + 64 < cLine) (ha : ME X a ma) (hb : ME X b mb) : MT X (.Compare a [.Eq] [b] pos) (mTv (m2 (g2S gEq) ma mb)) := mt_cmp (op_eqS hu) o2_eq ha hb (nomark _)
theorem mt_ne (hu : X.A.units + 64 < cLine) (ha : ME X a ma) (hb : ME X b mb) : MT X (.Compare a [.NotEq] [b] pos) (mTv (m2 (g2S gNe) ma mb)) := mt_cmp (op_neS hu) o2_ne ha hb (nomark _)
theorem mt_in (hu : X.A.units + 64 < cLine) (ha : ME X a ma) (hb : ME X b mb) (hm : behindInMarks .In b = false := by rfl) : MT X (.Compare a [.In] [b] pos) (mTv (m2 (g2S gIn) ma mb)) := mt_cmp (op_inS hu) o2_in ha hb hm
theorem mt_notin (hu : X.A.units + 64 < cLine) (ha : ME X a ma) (hb : ME X b mb) (hm : behindInMarks .NotIn b = false := by rfl) : MT X (.Compare a [.NotIn] [b] pos) (mTv (m2 (g2S gNotIn) ma mb)) := mt_cmp (op_notinS hu) o2_notin ha hb hm
theorem mt_lt (ha : ME X a ma) (hb : ME X b mb) : MT X (.Compare a [.Lt] [b] pos) (mTv (m2 gLt ma mb)) := mt_cmp op_lt o2_lt ha hb (nomark _)
theorem mt_le (ha : ME X a ma) (hb : ME X b mb) : MT X (.Compare a [.LtE] [b] pos) (mTv (m2 gLe ma mb)) := mt_cmp op_le o2_le ha hb (nomark _)
theorem mt_gt (ha : ME X a ma) (hb : ME X b mb) : MT X (.Compare a [.Gt] [b] pos) (mTv (m2 gGt ma mb)) := mt_cmp op_gt o2_gt ha hb (nomark _)
theorem mt_ge (ha : ME X a ma) (hb : ME X b mb) : MT X (.Compare a [.GtE] [b] pos) (mTv (m2 gGe ma mb)) := mt_cmp op_ge o2_ge ha hb (nomark _)
theorem hu_of' {A : Around} {k : Nat} (hr : Room k A) : A.units + 64 < cLine := by have := hr.un; omega
end
end M

set_option Elab.async false
set_option linter.all false
set_option maxRecDepth 100000
/-! Mini13: short names for the printer; x is True; xs[::-1]; list(range(..)). -/
namespace M
open PySem PySem.Spec L2
section
variable {X : Cx} {e a b c tg : Expr} {es : List Expr} {m ma mb mc : Fm} {mx : Fx} {ms : Fms} {pos p apos cpos tpos p2 : Pos} {x : Str} {i : Nat}
theorem me_len (hm : X.mg "len" = none) (ha : MA X [e] ms) (hg : Gl X "len" := by rfl) (he : starEach [e] X.env = (false, eval e X.env) :: starEach [] X.env := by rfl) (hpl : (backTo pos (starEach [] X.env)).any (·.1) = false := by rfl) : ME X (.Call (.Name "len" p) [e] [] pos) (mCS gLen ms) := me_callS gLen_atom cr_len hg hm PySem.boot_len ha (by decide) (by decide) he hpl
theorem me_int' (hm : X.mg "int" = none) (ha : MA X [e] ms) (hg : Gl X "int" := by rfl) (he : starEach [e] X.env = (false, eval e X.env) :: starEach [] X.env := by rfl) (hpl : (backTo pos (starEach [] X.env)).any (·.1) = false := by rfl) : ME X (.Call (.Name "int" p) [e] [] pos) (mCS gInt ms) := me_callST gInt_atom cr_int hg hm PyProof.Rows.boot_int ha (by decide) (by decide) he hpl
theorem me_abs (hm : X.mg "abs" = none) (ha : MA X [e] ms) (hg : Gl X "abs" := by rfl) (he : starEach [e] X.env = (false, eval e X.env) :: starEach [] X.env := by rfl) (hpl : (backTo pos (starEach [] X.env)).any (·.1) = false := by rfl) : ME X (.Call (.Name "abs" p) [e] [] pos) (mCS gAbs ms) := me_callS gAbs_atom cr_abs hg hm PyProof.Rows.boot_abs ha (by decide) (by decide) he hpl
theorem me_sum (hm : X.mg "sum" = none) (hc : X.calm = true) (ha : MA X [e] ms) (hg : Gl X "sum" := by rfl) (he : starEach [e] X.env = (false, eval e X.env) :: starEach [] X.env := by rfl) (hpl : (backTo pos (starEach [] X.env)).any (·.1) = false := by rfl) : ME X (.Call (.Name "sum" p) [e] [] pos) (mCS gSum ms) := me_callS gSum_atom (cr_sumD hc) hg hm PyProof.Rows.boot_sum ha (by decide) (by decide) he hpl
theorem me_any (hm : X.mg "any" = none) (hc : X.calm = true) (ha : MA X [e] ms) (hg : Gl X "any" := by rfl) (he : starEach [e] X.env = (false, eval e X.env) :: starEach [] X.env := by rfl) (hpl : (backTo pos (starEach [] X.env)).any (·.1) = false := by rfl) : ME X (.Call (.Name "any" p) [e] [] pos) (mCS gAny ms) := me_callS gAny_atom (cr_anyD hc) hg hm PyProof.Rows.boot_any ha (by decide) (by decide) he hpl
theorem me_all (hm : X.mg "all" = none) (hc : X.calm = true) (ha : MA X [e] ms) (hg : Gl X "all" := by rfl) (he : starEach [e] X.env = (false, eval e X.env) :: starEach [] X.env := by rfl) (hpl : (backTo pos (starEach [] X.env)).any (·.1) = false := by rfl) : ME X (.Call (.Name "all" p) [e] [] pos) (mCS gAll ms) := me_callS gAll_atom (cr_allD hc) hg hm PyProof.Rows.boot_all ha (by decide) (by decide) he hpl
theorem me_max2 (hm : X.mg "max" = none) (hc : X.calm = true) (ha : MA X [a, b] ms) (hg : Gl X "max" := by rfl) (he : starEach [a, b] X.env = (false, eval a X.env) :: starEach [b] X.env := by rfl) (hpl : (backTo pos (starEach [b] X.env)).any (·.1) = false := by rfl) : ME X (.Call (.Name "max" p) [a, b] [] pos) (mCS gMax2 ms) := me_callS gMax2_atom (cr_max2 hc) hg hm PyProof.Rows.boot_max ha (by decide) (by decide) he hpl
theorem me_min2 (hm : X.mg "min" = none) (hc : X.calm = true) (ha : MA X [a, b] ms) (hg : Gl X "min" := by rfl) (he : starEach [a, b] X.env = (false, eval a X.env) :: starEach [b] X.env := by rfl) (hpl : (backTo pos (starEach [b] X.env)).any (·.1) = false := by rfl) : ME X (.Call (.Name "min" p) [a, b] [] pos) (mCS gMin2 ms) := me_callS gMin2_atom (cr_min2 hc) hg hm PyProof.Rows.boot_min ha (by decide) (by decide) he hpl
theorem me_max (hm : X.mg "max" = none) (hc : X.calm = true) (hu : X.A.units + 64 < cLine) (ha : ME X e m) (hg : Gl X "max" := by rfl) (he : starEach [e] X.env = (false, eval e X.env) :: starEach [] X.env := by rfl) (hpl : (backTo pos (starEach [] X.env)).any (·.1) = false := by rfl) : ME X (.Call (.Name "max" p) [e] [] pos) (mCIL gMax m) := me_callIL (cr_maxD hc hu) hg hm PyProof.Rows.boot_max ha (by decide) (by decide) he hpl
theorem me_min (hm : X.mg "min" = none) (hc : X.calm = true) (hu : X.A.units + 64 < cLine) (ha : ME X e m) (hg : Gl X "min" := by rfl) (he : starEach [e] X.env = (false, eval e X.env) :: starEach [] X.env := by rfl) (hpl : (backTo pos (starEach [] X.env)).any (·.1) = false := by rfl) : ME X (.Call (.Name "min" p) [e] [] pos) (mCIL gMin m) := me_callIL (cr_minD hc hu) hg hm PyProof.Rows.boot_min ha (by decide) (by decide) he hpl
theorem me_sorted (hm : X.mg "sorted" = none) (hu : X.A.units + 64 < cLine) (ha : ME X e m) (hg : Gl X "sorted" := by rfl) (he : starEach [e] X.env = (false, eval e X.env) :: starEach [] X.env := by rfl) (hpl : (backTo pos (starEach [] X.env)).any (·.1) = false := by rfl) : ME X (.Call (.Name "sorted" p) [e] [] pos) (mCLL gSort m) := me_callLL (cr_sortD hu) hg hm PyProof.Rows.boot_sorted ha (by decide) (by decide) he hpl
theorem me_list (hm : X.mg "list" = none) (ha : ME X e m) (hg : Gl X "list" := by rfl) (he : starEach [e] X.env = (false, eval e X.env) :: starEach [] X.env := by rfl) (hpl : (backTo pos (starEach [] X.env)).any (·.1) = false := by rfl) : ME X (.Call (.Name "list" p) [e] [] pos) (mCL some m) := me_callLT cr_listD hg hm PyProof.Rows.boot_list ha (by decide) (by decide) he hpl
theorem boot_t_list : bootBuiltins "list" = some (.type "list") := PyProof.Rows.boot_list
theorem boot_t_tuple : bootBuiltins "tuple" = some (.type "tuple") := PyProof.Rows.boot_tuple
theorem boot_t_int : bootBuiltins "int" = some (.type "int") := PyProof.Rows.boot_int
theorem boot_t_bool : bootBuiltins "bool" = some (.type "bool") := PyProof.Rows.boot_bool
theorem boot_t_str : bootBuiltins "str" = some (.type "str") := PyProof.Rows.boot_str

/-! ### x is True, x is not False -/
def isB (k : Bool) : D → Bool
  | .bool b => b == k
  | _ => false
theorem op_isB (k : Bool) : OpR X (compareOp .Is) (fun x y H Q => ∃ j, x = .bl j ∧ y = .bl k ∧ Q (.bl (j == k)) H) := by
  intro pins s σ H x y v u Q I rx ry h
  obtain ⟨j, rfl, rfl, q⟩ := h
  cases rx
  cases ry
  have h : ∃ v H', L2.Inv X pins σ H' s ∧ RelV v (Value.bool (j == k)) ∧ Q v H' := ⟨.bl _, H, I, rfl, q⟩
  cases j <;> cases k <;> exact wpAny_pure h
theorem op_notB (k : Bool) : OpR X (compareOp .IsNot) (fun x y H Q => ∃ j, x = .bl j ∧ y = .bl k ∧ Q (.bl (!(j == k))) H) := by
  intro pins s σ H x y v u Q I rx ry h
  obtain ⟨j, rfl, rfl, q⟩ := h
  cases rx
  cases ry
  have h : ∃ v H', L2.Inv X pins σ H' s ∧ RelV v (Value.bool (!(j == k))) ∧ Q v H' := ⟨.bl _, H, I, rfl, q⟩
  cases j <;> cases k <;> exact wpAny_pure h
def mIsB (k : Bool) (m : Fm) : Fm := fun env => (m env).bind fun r => (asB r).bind fun j => some (.sha (.bool (j == k)))
def mNotB (k : Bool) (m : Fm) : Fm := fun env => (m env).bind fun r => (asB r).bind fun j => some (.sha (.bool (!(j == k))))
theorem ev_isB {K : PySem.W.Frag} {t : TE} {k : Bool} {f : Bool → Bool} (o : EvOk K ma t) : EvOk K (fun env => (ma env).bind fun r => (asB r).bind fun j => some (.sha (.bool (f j)))) (tOp (fun x y H Q => ∃ j, x = .bl j ∧ y = .bl k ∧ Q (.bl (f j)) H) t (tC (.bl k))) := by
  intro He G0 G H σ env F r Q gd e kk
  dsimp only at e
  cases h1 : ma env with
  | none => rw [h1] at e; cases e
  | some r1 =>
    cases h2 : asB r1 with
    | none => simp [h1, h2] at e
    | some j =>
      simp only [h1, h2, Option.bind_some] at e
      cases e
      exact o He G0 G H σ env F r1 _ gd h1 fun v G1 H1 x1 rr => ⟨j, rr.bl (asB_inv h2), rfl, kk _ G1 H1 x1 (.ofAtom (.bl _))⟩
theorem me_isB {k : Bool} {j pos'} (ha : ME X a ma) : ME X (.Compare a [.Is] [.Constant (.bool k) j pos'] pos) (mIsB k ma) := by
  obtain ⟨t, p, o⟩ := ha.ex
  exact ⟨_, pe_cmpR (op_isB k) p pe_bl (nomark _), ev_isB (f := fun j => j == k) o⟩
theorem me_notB {k : Bool} {j pos'} (ha : ME X a ma) : ME X (.Compare a [.IsNot] [.Constant (.bool k) j pos'] pos) (mNotB k ma) := by
  obtain ⟨t, p, o⟩ := ha.ex
  exact ⟨_, pe_cmpR (op_notB k) p pe_bl (nomark _), ev_isB (f := fun j => !(j == k)) o⟩
theorem mt_isB {k : Bool} {j pos'} (ha : ME X a ma) : MT X (.Compare a [.Is] [.Constant (.bool k) j pos'] pos) (mTv (mIsB k ma)) := by
  obtain ⟨t, p, o⟩ := ha.ex
  exact ⟨_, pt_cmpR (op_isB k) p pe_bl (nomark _), tv_of (ev_isB (f := fun j => j == k) o)⟩
theorem mt_notB {k : Bool} {j pos'} (ha : ME X a ma) : MT X (.Compare a [.IsNot] [.Constant (.bool k) j pos'] pos) (mTv (mNotB k ma)) := by
  obtain ⟨t, p, o⟩ := ha.ex
  exact ⟨_, pt_cmpR (op_notB k) p pe_bl (nomark _), tv_of (ev_isB (f := fun j => !(j == k)) o)⟩
/-! ### xs[::-1] -/
def mRevL (m : Fm) : Fm := fun env => (m env).bind fun r => (elemsL r).bind fun ds => some ⟨.l .s, .list ds.reverse, []⟩
theorem me_revL {k : Nat} {p1 p2 p3 : Pos} (he : ME X e m) : ME X (.Subscript e (.Slice none none (some (.UnaryOp .USub (.Constant (.int 1) k p1) p2)) p3) pos) (mRevL m) := by
  obtain ⟨t, p, o⟩ := he.ex
  refine ⟨_, pe_revL p, ?_⟩
  intro He G0 G H σ env F r Q g e k
  unfold mRevL at e
  cases h1 : m env with
  | none => rw [h1] at e; cases e
  | some r1 =>
    cases h2 : elemsL r1 with
    | none => simp [h1, h2] at e
    | some ds =>
      simp only [h1, h2, Option.bind_some] at e
      cases e
      refine o He G0 G H σ env F r1 _ g h1 fun v G1 H1 x1 rr => ?_
      obtain ⟨us, a, rfl, s, al⟩ := rr.itemsL x1.gh h2
      exact ⟨a, us, rfl, s, fun p hp => k _ G1 _ (x1.new hp) (.newL x1 hp (dpAll_reverse al))⟩
/-! ### list(range(..)) -/
theorem rp_rng {K : PySem.W.Frag} {G : Hp} (a : Int) : ∀ (ns : List Nat), RpAll K G (ns.map fun i => V.int (a + (i : Nat))) (ns.map fun i => PyData.int (a + (i : Nat)))
  | [] => .nil
  | n :: r => .cons (.int _) (rp_rng a r)
end
/-- a def that is never run -/
theorem fn_none {P : Program} {w : World} {K : PySem.W.Frag} {mg : Str → Option Value} {base : Heap} {x qual : Str} {st : Stmt} {f : Addr} {fd : FuncData} {ps : List Str} {k : Nat} (F : L2.Fun K x qual st f fd) (hm : mg x = some (.ref f)) (hb : Binds K fd ps []) :
    Fn P w K mg base k x ps.length (fun _ => none) := by
  refine ⟨f, fd, ps, ⟨fun vs H Q E h => ?_, fun A outer s H args us vs Q E _ _ _ _ h => ?_⟩, hm, F.kp, hb⟩
  · obtain ⟨G0, ds, r, h1, _, h2, h3, _⟩ := h
    cases h3
  · obtain ⟨G0, ds, r, h1, _, h2, h3, _⟩ := h
    cases h3
/-- a def of the text as it stands behind the top -/
structure FA (K : PySem.W.Frag) (mg : Str → Option Value) (x qual : Str) (st : Stmt) (ps : List Str) : Prop where
  ex : ∃ (f : Addr) (fd : FuncData), L2.Fun K x qual st f fd ∧ mg x = some (.ref f) ∧ Binds K fd ps []
def mNev : Fs := fun _ => none
theorem ms_never {X : Cx} {st : Stmt} : MS X st mNev := by
  refine ⟨_, ps_never, ?_⟩
  intro He G0 G H σ env F o N g e k
  cases e
end M

set_option linter.all false
set_option maxRecDepth 100000
/-! Ev: how the value semantics is reckoned. -/
namespace M
open PySem PySem.Spec L2
/-! ### statements -/
theorem seq_nx {a b : Fs} {env e : Env} (h : a env = some (.nx e)) : mSeq a b env = b e := by unfold mSeq; rw [h]; rfl
theorem seq_rt {a b : Fs} {env : Env} {s : Sh} {d : D} (h : a env = some (.rt s d)) : mSeq a b env = some (.rt s d) := by unfold mSeq; rw [h]; rfl
theorem seq_bk {a b : Fs} {env e : Env} (h : a env = some (.bk e)) : mSeq a b env = some (.bk e) := by unfold mSeq; rw [h]; rfl
theorem seq_ct {a b : Fs} {env e : Env} (h : a env = some (.ct e)) : mSeq a b env = some (.ct e) := by unfold mSeq; rw [h]; rfl
/-! ### operators on data -/
theorem add_ii (s t : Sh) (i j : Int) (a b : List Nat) : gAdd ⟨s, .int i, a⟩ ⟨t, .int j, b⟩ = some ⟨.s, .int (i + j), []⟩ := rfl
theorem sub_ii (s t : Sh) (i j : Int) (a b : List Nat) : gSub ⟨s, .int i, a⟩ ⟨t, .int j, b⟩ = some ⟨.s, .int (i - j), []⟩ := rfl
theorem mod_ii (s t : Sh) (i j : Int) (a b : List Nat) (h : 0 < j) : gMod ⟨s, .int i, a⟩ ⟨t, .int j, b⟩ = some ⟨.s, .int (i % j), []⟩ := by
  unfold gMod gI
  simp only
  rw [if_pos (decide_eq_true (by omega)), Int.fmod_eq_emod_of_nonneg _ (by omega)]
theorem div_ii (s t : Sh) (i j : Int) (a b : List Nat) (h : 0 < j) (h2 : j < 1073741824) : gDiv ⟨s, .int i, a⟩ ⟨t, .int j, b⟩ = some ⟨.s, .int (i / j), []⟩ := by
  unfold gDiv gI
  simp only
  rw [if_pos (by simp only [okDiv, Bool.and_eq_true, decide_eq_true_eq]; omega), Int.fdiv_eq_ediv_of_nonneg _ (by omega)]
theorem mul_ii (s t : Sh) (i j : Int) (a b : List Nat) (h : (-18446744073709551616 < i ∧ i < 18446744073709551616) ∨ (-18446744073709551616 < j ∧ j < 18446744073709551616)) : gMul ⟨s, .int i, a⟩ ⟨t, .int j, b⟩ = some ⟨.s, .int (i * j), []⟩ := by
  have e : gMulI ⟨s, .int i, a⟩ ⟨t, .int j, b⟩ = some ⟨.s, .int (i * j), []⟩ := by
    unfold gMulI gI
    simp only
    rw [if_pos]
    simp only [okMul, Bool.or_eq_true, Bool.and_eq_true, decide_eq_true_eq, show (2 : Int) ^ 64 = 18446744073709551616 from rfl]
    exact h
  unfold gMul g2or
  rw [e]; rfl
theorem pow_ii (s t : Sh) (i j : Int) (a b : List Nat) (h : 0 ≤ j) (h2 : j ≤ 1000000) (h3 : i.natAbs < 2 ^ 64) : gPow ⟨s, .int i, a⟩ ⟨t, .int j, b⟩ = some ⟨.s, .int (i ^ j.toNat), []⟩ := by
  unfold gPow gI
  simp only
  rw [if_pos (by simp only [okPow, Bool.and_eq_true, decide_eq_true_eq]; exact ⟨⟨h, h2⟩, h3⟩)]
theorem neg_i (s : Sh) (i : Int) (a : List Nat) : gNeg ⟨s, .int i, a⟩ = some ⟨.s, .int (-i), []⟩ := rfl
theorem lt_ii (s t : Sh) (i j : Int) (a b : List Nat) : gLt ⟨s, .int i, a⟩ ⟨t, .int j, b⟩ = some ⟨.s, .bool (decide (i < j)), []⟩ := rfl
theorem le_ii (s t : Sh) (i j : Int) (a b : List Nat) : gLe ⟨s, .int i, a⟩ ⟨t, .int j, b⟩ = some ⟨.s, .bool (decide (i ≤ j)), []⟩ := rfl
theorem gt_ii (s t : Sh) (i j : Int) (a b : List Nat) : gGt ⟨s, .int i, a⟩ ⟨t, .int j, b⟩ = some ⟨.s, .bool (decide (j < i)), []⟩ := rfl
theorem ge_ii (s t : Sh) (i j : Int) (a b : List Nat) : gGe ⟨s, .int i, a⟩ ⟨t, .int j, b⟩ = some ⟨.s, .bool (decide (j ≤ i)), []⟩ := rfl
theorem eqv_int (i j : Int) : PyData.eqv (.int i) (.int j) = (i == j) := by rw [PyData.eqv]
theorem eq_ii (s t : Sh) (i j : Int) (a b : List Nat) : g2S gEq ⟨s, .int i, a⟩ ⟨t, .int j, b⟩ = some ⟨.s, .bool (decide (i = j)), []⟩ := by
  have : gEq (.int i) (.int j) = some (.bool (decide (i = j))) := by
    unfold gEq
    rw [if_pos (by simp [PyData.depth]), eqv_int]
    rfl
  unfold g2S; rw [this]; rfl
theorem ne_ii (s t : Sh) (i j : Int) (a b : List Nat) : g2S gNe ⟨s, .int i, a⟩ ⟨t, .int j, b⟩ = some ⟨.s, .bool (decide (i ≠ j)), []⟩ := by
  have : gNe (.int i) (.int j) = some (.bool (decide (i ≠ j))) := by
    unfold gNe
    rw [if_pos (by simp [PyData.depth]), eqv_int]
    congr 2
    by_cases h : i = j <;> simp [h]
  unfold g2S; rw [this]; rfl
theorem len_l (ds : List D) : gLen [.list ds] = some (.int ds.length) := rfl
theorem len_t (ds : List D) : gLen [.tuple ds] = some (.int ds.length) := rfl
theorem int_i (i : Int) : gInt [.int i] = some (.int i) := rfl
theorem int_b (b : Bool) : gInt [.bool b] = some (.int (if b then 1 else 0)) := rfl
/-- an item at a place that is there -/
theorem atI_nat {α : Type} {xs : List α} {i : Int} {x : α} (h0 : 0 ≤ i) (hx : xs[i.toNat]? = some x) : atI xs i = some x := by
  have hl := (List.getElem?_eq_some_iff.mp hx).1
  have : ixN xs.length i = some i.toNat := by
    unfold ixN
    rw [if_pos h0, if_pos (by omega)]
  unfold atI; rw [this]; exact hx
theorem ix_sl (ds : List D) (t : Sh) (i : Int) (a b : List Nat) (d : D) (h0 : 0 ≤ i) (hx : ds[i.toNat]? = some d) : gIx ⟨.s, .list ds, a⟩ ⟨t, .int i, b⟩ = some ⟨.s, d, []⟩ := by
  show (atI ds i).map _ = _
  rw [atI_nat h0 hx]; rfl
theorem ix_st (ds : List D) (t : Sh) (i : Int) (a b : List Nat) (d : D) (h0 : 0 ≤ i) (hx : ds[i.toNat]? = some d) : gIx ⟨.s, .tuple ds, a⟩ ⟨t, .int i, b⟩ = some ⟨.s, d, []⟩ := by
  show (atI ds i).map _ = _
  rw [atI_nat h0 hx]; rfl
theorem ix_ll (ds : List D) (t : Sh) (i : Int) (a b : List Nat) (d : D) (h0 : 0 ≤ i) (hx : ds[i.toNat]? = some d) : gIx ⟨.l .s, .list ds, a⟩ ⟨t, .int i, b⟩ = some ⟨.s, d, []⟩ := by
  show (atI ds i).map _ = _
  rw [atI_nat h0 hx]; rfl
/-! ### loops -/
theorem forL_inv {b : D → Env → Option Out} (P : Nat → Env → Prop) {ds : List D} {env : Env} (h0 : P 0 env) (hs : ∀ i d e, ds[i]? = some d → P i e → ∃ e', b d e = some (.nx e') ∧ P (i + 1) e') :
    ∃ e', forL b ds env = some (.nx e') ∧ P ds.length e' := by
  induction ds generalizing env P with
  | nil => exact ⟨env, rfl, h0⟩
  | cons d ds ih =>
    obtain ⟨e1, h1, p1⟩ := hs 0 d env rfl h0
    obtain ⟨e2, h2, p2⟩ := ih (fun i => P (i + 1)) p1 fun i d' e hd hp => hs (i + 1) d' e (by simpa using hd) hp
    exact ⟨e2, by unfold forL; rw [h1]; exact h2, p2⟩
/-- .. where a turn may go on to the next one, or end the def -/
theorem forL_inv' {b : D → Env → Option Out} (P : Nat → Env → Prop) (R : Sh → D → Prop) (B : Env → Prop) {ds : List D} {env : Env} (h0 : P 0 env)
    (hs : ∀ i d e, ds[i]? = some d → P i e → (∃ e', (b d e = some (.nx e') ∨ b d e = some (.ct e')) ∧ P (i + 1) e') ∨ (∃ s r, b d e = some (.rt s r) ∧ R s r) ∨ ∃ e', b d e = some (.bk e') ∧ B e') :
    (∃ e', forL b ds env = some (.nx e') ∧ (P ds.length e' ∨ B e')) ∨ ∃ s r, forL b ds env = some (.rt s r) ∧ R s r := by
  induction ds generalizing env P with
  | nil => exact .inl ⟨env, rfl, .inl h0⟩
  | cons d ds ih =>
    rcases hs 0 d env rfl h0 with ⟨e1, h1, p1⟩ | ⟨s, r, h1, p1⟩ | ⟨e1, h1, p1⟩
    · have := ih (fun i => P (i + 1)) p1 fun i d' e hd hp => hs (i + 1) d' e (by simpa using hd) hp
      rcases this with ⟨e2, h2, p2⟩ | ⟨s, r, h2, p2⟩
      · exact .inl ⟨e2, by unfold forL; rcases h1 with h1 | h1 <;> (rw [h1]; exact h2), p2⟩
      · exact .inr ⟨s, r, by unfold forL; rcases h1 with h1 | h1 <;> (rw [h1]; exact h2), p2⟩
    · exact .inr ⟨s, r, by unfold forL; rw [h1], p1⟩
    · exact .inl ⟨e1, by unfold forL; rw [h1], .inr p1⟩
theorem rngD_at {lo : Int} {n i : Nat} {d : D} (h : (rngD lo n)[i]? = some d) : i < n ∧ d = .int (lo + (i : Nat)) := rngD_get h
/-! ### comprehensions -/
theorem lcL_map {f : D → Option (Option R)} {g : D → R} {ds : List D} (h : ∀ d ∈ ds, f d = some (some (g d))) : lcL f ds = some (ds.map g) := by
  induction ds with
  | nil => rfl
  | cons d ds ih =>
    unfold lcL
    rw [h d List.mem_cons_self, ih fun x hx => h x (List.mem_cons_of_mem _ hx)]
    rfl
theorem lcL_filterMap {f : D → Option (Option R)} {g : D → Option R} {ds : List D} (h : ∀ d ∈ ds, f d = some (g d)) : lcL f ds = some (ds.filterMap g) := by
  induction ds with
  | nil => rfl
  | cons d ds ih =>
    unfold lcL
    rw [h d List.mem_cons_self, ih fun x hx => h x (List.mem_cons_of_mem _ hx)]
    cases h1 : g d <;> simp [h1]
end M
namespace M
open PySem PySem.Spec L2
theorem ix_map {α : Type} [Inhabited α] (f : α → D) (xs : List α) (s t : Sh) (i : Int) (a b : List Nat) (h0 : 0 ≤ i) (h1 : i < xs.length) (hs : s = .s ∨ s = .l .s) : gIx ⟨s, .list (xs.map f), a⟩ ⟨t, .int i, b⟩ = some ⟨.s, f (xs.getD i.toNat default), []⟩ := by
  have hn : i.toNat < xs.length := by omega
  have hx : (xs.map f)[i.toNat]? = some (f (xs.getD i.toNat default)) := by
    rw [List.getElem?_map, List.getD_eq_getElem?_getD, List.getElem?_eq_getElem hn]; rfl
  rcases hs with rfl | rfl
  · exact ix_sl _ _ _ _ _ _ h0 hx
  · exact ix_ll _ _ _ _ _ _ h0 hx
theorem ix_map_s {α : Type} [Inhabited α] (f : α → D) (xs : List α) (t : Sh) (i : Int) (a b : List Nat) (h0 : 0 ≤ i) (h1 : i < xs.length) : gIx ⟨.s, .list (xs.map f), a⟩ ⟨t, .int i, b⟩ = some ⟨.s, f (xs.getD i.toNat default), []⟩ := ix_map f xs .s t i a b h0 h1 (.inl rfl)
theorem ix_map_l {α : Type} [Inhabited α] (f : α → D) (xs : List α) (t : Sh) (i : Int) (a b : List Nat) (h0 : 0 ≤ i) (h1 : i < xs.length) : gIx ⟨.l .s, .list (xs.map f), a⟩ ⟨t, .int i, b⟩ = some ⟨.s, f (xs.getD i.toNat default), []⟩ := ix_map f xs (.l .s) t i a b h0 h1 (.inr rfl)
theorem getD_mem {α : Type} [Inhabited α] {xs : List α} {i : Nat} (h : i < xs.length) : xs.getD i default ∈ xs := by
  rw [List.getD_eq_getElem?_getD, List.getElem?_eq_getElem h]; exact List.getElem_mem h
theorem sizeLine_val : sizeLine = 16777216 := sizeLine_eq
end M
namespace M
theorem gs1 {α : Type} (a : α) (l : List α) : (a :: l)[1]? = l[0]? := rfl
theorem ss1 {α : Type} (a x : α) (l : List α) : (a :: l).set 1 x = a :: l.set 0 x := rfl
theorem gs2 {α : Type} (a : α) (l : List α) : (a :: l)[2]? = l[1]? := rfl
theorem ss2 {α : Type} (a x : α) (l : List α) : (a :: l).set 2 x = a :: l.set 1 x := rfl
theorem gs3 {α : Type} (a : α) (l : List α) : (a :: l)[3]? = l[2]? := rfl
theorem ss3 {α : Type} (a x : α) (l : List α) : (a :: l).set 3 x = a :: l.set 2 x := rfl
theorem gs4 {α : Type} (a : α) (l : List α) : (a :: l)[4]? = l[3]? := rfl
theorem ss4 {α : Type} (a x : α) (l : List α) : (a :: l).set 4 x = a :: l.set 3 x := rfl
theorem gs5 {α : Type} (a : α) (l : List α) : (a :: l)[5]? = l[4]? := rfl
theorem ss5 {α : Type} (a x : α) (l : List α) : (a :: l).set 5 x = a :: l.set 4 x := rfl
theorem gs6 {α : Type} (a : α) (l : List α) : (a :: l)[6]? = l[5]? := rfl
theorem ss6 {α : Type} (a x : α) (l : List α) : (a :: l).set 6 x = a :: l.set 5 x := rfl
theorem gs7 {α : Type} (a : α) (l : List α) : (a :: l)[7]? = l[6]? := rfl
theorem ss7 {α : Type} (a x : α) (l : List α) : (a :: l).set 7 x = a :: l.set 6 x := rfl
theorem gs8 {α : Type} (a : α) (l : List α) : (a :: l)[8]? = l[7]? := rfl
theorem ss8 {α : Type} (a x : α) (l : List α) : (a :: l).set 8 x = a :: l.set 7 x := rfl
theorem gs9 {α : Type} (a : α) (l : List α) : (a :: l)[9]? = l[8]? := rfl
theorem ss9 {α : Type} (a x : α) (l : List α) : (a :: l).set 9 x = a :: l.set 8 x := rfl
theorem gs10 {α : Type} (a : α) (l : List α) : (a :: l)[10]? = l[9]? := rfl
theorem ss10 {α : Type} (a x : α) (l : List α) : (a :: l).set 10 x = a :: l.set 9 x := rfl
theorem gs11 {α : Type} (a : α) (l : List α) : (a :: l)[11]? = l[10]? := rfl
theorem ss11 {α : Type} (a x : α) (l : List α) : (a :: l).set 11 x = a :: l.set 10 x := rfl
theorem gs12 {α : Type} (a : α) (l : List α) : (a :: l)[12]? = l[11]? := rfl
theorem ss12 {α : Type} (a x : α) (l : List α) : (a :: l).set 12 x = a :: l.set 11 x := rfl
theorem gs13 {α : Type} (a : α) (l : List α) : (a :: l)[13]? = l[12]? := rfl
theorem ss13 {α : Type} (a x : α) (l : List α) : (a :: l).set 13 x = a :: l.set 12 x := rfl
theorem gs14 {α : Type} (a : α) (l : List α) : (a :: l)[14]? = l[13]? := rfl
theorem ss14 {α : Type} (a x : α) (l : List α) : (a :: l).set 14 x = a :: l.set 13 x := rfl
theorem gs15 {α : Type} (a : α) (l : List α) : (a :: l)[15]? = l[14]? := rfl
theorem ss15 {α : Type} (a x : α) (l : List α) : (a :: l).set 15 x = a :: l.set 14 x := rfl
theorem gs16 {α : Type} (a : α) (l : List α) : (a :: l)[16]? = l[15]? := rfl
theorem ss16 {α : Type} (a x : α) (l : List α) : (a :: l).set 16 x = a :: l.set 15 x := rfl
theorem gs17 {α : Type} (a : α) (l : List α) : (a :: l)[17]? = l[16]? := rfl
theorem ss17 {α : Type} (a x : α) (l : List α) : (a :: l).set 17 x = a :: l.set 16 x := rfl
theorem gs18 {α : Type} (a : α) (l : List α) : (a :: l)[18]? = l[17]? := rfl
theorem ss18 {α : Type} (a x : α) (l : List α) : (a :: l).set 18 x = a :: l.set 17 x := rfl
theorem gs19 {α : Type} (a : α) (l : List α) : (a :: l)[19]? = l[18]? := rfl
theorem ss19 {α : Type} (a x : α) (l : List α) : (a :: l).set 19 x = a :: l.set 18 x := rfl
theorem gs20 {α : Type} (a : α) (l : List α) : (a :: l)[20]? = l[19]? := rfl
theorem ss20 {α : Type} (a x : α) (l : List α) : (a :: l).set 20 x = a :: l.set 19 x := rfl
theorem gs21 {α : Type} (a : α) (l : List α) : (a :: l)[21]? = l[20]? := rfl
theorem ss21 {α : Type} (a x : α) (l : List α) : (a :: l).set 21 x = a :: l.set 20 x := rfl
theorem gs22 {α : Type} (a : α) (l : List α) : (a :: l)[22]? = l[21]? := rfl
theorem ss22 {α : Type} (a x : α) (l : List α) : (a :: l).set 22 x = a :: l.set 21 x := rfl
theorem gs23 {α : Type} (a : α) (l : List α) : (a :: l)[23]? = l[22]? := rfl
theorem ss23 {α : Type} (a x : α) (l : List α) : (a :: l).set 23 x = a :: l.set 22 x := rfl
theorem gs24 {α : Type} (a : α) (l : List α) : (a :: l)[24]? = l[23]? := rfl
theorem ss24 {α : Type} (a x : α) (l : List α) : (a :: l).set 24 x = a :: l.set 23 x := rfl
theorem gs25 {α : Type} (a : α) (l : List α) : (a :: l)[25]? = l[24]? := rfl
theorem ss25 {α : Type} (a x : α) (l : List α) : (a :: l).set 25 x = a :: l.set 24 x := rfl
theorem gs26 {α : Type} (a : α) (l : List α) : (a :: l)[26]? = l[25]? := rfl
theorem ss26 {α : Type} (a x : α) (l : List α) : (a :: l).set 26 x = a :: l.set 25 x := rfl
theorem gs27 {α : Type} (a : α) (l : List α) : (a :: l)[27]? = l[26]? := rfl
theorem ss27 {α : Type} (a x : α) (l : List α) : (a :: l).set 27 x = a :: l.set 26 x := rfl
theorem gs28 {α : Type} (a : α) (l : List α) : (a :: l)[28]? = l[27]? := rfl
theorem ss28 {α : Type} (a x : α) (l : List α) : (a :: l).set 28 x = a :: l.set 27 x := rfl
theorem gs29 {α : Type} (a : α) (l : List α) : (a :: l)[29]? = l[28]? := rfl
theorem ss29 {α : Type} (a x : α) (l : List α) : (a :: l).set 29 x = a :: l.set 28 x := rfl
theorem gs0 {α : Type} (a : α) (l : List α) : (a :: l)[0]? = some a := rfl
theorem ss0 {α : Type} (a x : α) (l : List α) : (a :: l).set 0 x = x :: l := rfl
end M

set_option linter.all false
set_option maxRecDepth 100000
/-! Ev2: more rules of reckoning. -/
namespace M
open PySem PySem.Spec L2
/-- the item at a place, or the default -/
def nth {α : Type} [Inhabited α] (xs : List α) (i : Nat) : α := xs.getD i default
theorem nth_mem {α : Type} [Inhabited α] {xs : List α} {i : Nat} (h : i < xs.length) : nth xs i ∈ xs := getD_mem h
theorem nth_get {α : Type} [Inhabited α] {xs : List α} {i : Nat} (h : i < xs.length) : xs[i]? = some (nth xs i) := by
  unfold nth; rw [List.getD_eq_getElem?_getD, List.getElem?_eq_getElem h]; rfl
theorem nth_of {α : Type} [Inhabited α] {xs : List α} {i : Nat} {x : α} (h : xs[i]? = some x) : nth xs i = x := by
  unfold nth; rw [List.getD_eq_getElem?_getD, h]; rfl
theorem mem_nth {α : Type} [Inhabited α] {xs : List α} {x : α} (h : x ∈ xs) : ∃ i, i < xs.length ∧ nth xs i = x := by
  obtain ⟨i, hi, e⟩ := List.getElem_of_mem h
  exact ⟨i, hi, nth_of (by rw [List.getElem?_eq_getElem hi, e])⟩
theorem nth_app_l {α : Type} [Inhabited α] {xs ys : List α} {i : Nat} (h : i < xs.length) : nth (xs ++ ys) i = nth xs i := by
  apply nth_of; rw [List.getElem?_append_left h]; exact nth_get h
theorem nth_app_e {α : Type} [Inhabited α] {xs : List α} {x : α} {i : Nat} (h : i = xs.length) : nth (xs ++ [x]) i = x := by
  subst h; apply nth_of; simp
theorem nth_set {α : Type} [Inhabited α] {xs : List α} {i j : Nat} {x : α} (h : i < xs.length) : nth (xs.set i x) j = if i = j then x else nth xs j := by
  unfold nth
  rw [List.getD_eq_getElem?_getD, List.getD_eq_getElem?_getD, List.getElem?_set]
  by_cases e : i = j
  · subst e; simp [h]
  · simp [e]
theorem nth_map {α β : Type} [Inhabited α] [Inhabited β] {f : α → β} {xs : List α} {i : Nat} (h : i < xs.length) : nth (xs.map f) i = f (nth xs i) := by
  apply nth_of; rw [List.getElem?_map, nth_get h]; rfl
theorem ix_mS {α : Type} [Inhabited α] (f : α → D) (xs : List α) (t : Sh) (i : Int) (a b : List Nat) (h0 : 0 ≤ i) (h1 : i < xs.length) : gIx ⟨.s, .list (xs.map f), a⟩ ⟨t, .int i, b⟩ = some ⟨.s, f (nth xs i.toNat), []⟩ := ix_map f xs .s t i a b h0 h1 (.inl rfl)
theorem ix_mL {α : Type} [Inhabited α] (f : α → D) (xs : List α) (t : Sh) (i : Int) (a b : List Nat) (h0 : 0 ≤ i) (h1 : i < xs.length) : gIx ⟨.l .s, .list (xs.map f), a⟩ ⟨t, .int i, b⟩ = some ⟨.s, f (nth xs i.toNat), []⟩ := ix_map f xs (.l .s) t i a b h0 h1 (.inr rfl)
theorem ix_t0 (ds : List D) (d0 : D) (t : Sh) (a b : List Nat) : gIx ⟨.s, .tuple (d0 :: ds), a⟩ ⟨t, .int 0, b⟩ = some ⟨.s, d0, []⟩ := ix_st _ _ _ _ _ _ (by decide) rfl
theorem ix_t1 (ds : List D) (d0 d1 : D) (t : Sh) (a b : List Nat) : gIx ⟨.s, .tuple (d0 :: d1 :: ds), a⟩ ⟨t, .int 1, b⟩ = some ⟨.s, d1, []⟩ := ix_st _ _ _ _ _ _ (by decide) rfl
theorem ix_t2 (ds : List D) (d0 d1 d2 : D) (t : Sh) (a b : List Nat) : gIx ⟨.s, .tuple (d0 :: d1 :: d2 :: ds), a⟩ ⟨t, .int 2, b⟩ = some ⟨.s, d2, []⟩ := ix_st _ _ _ _ _ _ (by decide) rfl
theorem ix_t3 (ds : List D) (d0 d1 d2 d3 : D) (t : Sh) (a b : List Nat) : gIx ⟨.s, .tuple (d0 :: d1 :: d2 :: d3 :: ds), a⟩ ⟨t, .int 3, b⟩ = some ⟨.s, d3, []⟩ := ix_st _ _ _ _ _ _ (by decide) rfl
def pick3 (i x y z : Int) : Int := if i = 0 then x else if i = 1 then y else z
theorem ix_l3 (i x y z : Int) (t : Sh) (a b : List Nat) (h0 : 0 ≤ i) (h1 : i < 3) : gIx ⟨.l .s, .list [.int x, .int y, .int z], a⟩ ⟨t, .int i, b⟩ = some ⟨.s, .int (pick3 i x y z), []⟩ := by
  unfold pick3
  refine ix_ll _ _ _ _ _ _ h0 ?_
  rcases (by omega : i = 0 ∨ i = 1 ∨ i = 2) with h | h | h <;> subst h <;> rfl
/-- a comprehension over a typed list -/
theorem mLc_f {α : Type} {mi : Fi} {vs : List Nat} {tg : Fg} {mt : Ft} {me : Fm} {env : Env} (F : α → D) (xs : List α) (p : α → Bool) (g : α → D) {b : Bool} (hi : mi env = some (xs.map F, b)) (hn : xs.length ≤ 16777216)
    (h : ∀ x ∈ xs, ∃ e1, tg (wipeE env vs) (F x) = some e1 ∧ mt e1 = some (p x) ∧ (p x = true → ∃ sh, me e1 = some ⟨sh, g x, []⟩)) : mLc .s mi vs tg mt me env = some ⟨.l .s, .list ((xs.filter p).map g), []⟩ := by
  have key : ∃ rs, lcL (fun d => (tg (wipeE env vs) d).bind fun e1 => (mt e1).bind fun b => if b then (me e1).bind fun r => if okE .s r then some (some r) else none else some none) (xs.map F) = some rs ∧ rs.map R.d = (xs.filter p).map g := by
    clear hi hn
    induction xs with
    | nil => exact ⟨[], rfl, rfl⟩
    | cons x xs ih =>
      obtain ⟨rs, h1, h2⟩ := ih fun y hy => h y (List.mem_cons_of_mem _ hy)
      obtain ⟨e1, h3, h4, h5⟩ := h x List.mem_cons_self
      rw [List.map_cons]
      unfold lcL
      rw [h1, h3]
      simp only [Option.bind_some, h4]
      by_cases hp : p x = true
      · obtain ⟨sh, h6⟩ := h5 hp
        rw [hp, List.filter_cons_of_pos hp]
        simp only [if_true, h6, Option.bind_some, okE, List.isEmpty_nil, Bool.and_true, Bool.true_and]
        exact ⟨_, rfl, by rw [List.map_cons, List.map_cons, h2]⟩
      · rw [List.filter_cons_of_neg hp]
        simp only [hp]
        exact ⟨rs, rfl, h2⟩
  obtain ⟨rs, h1, h2⟩ := key
  unfold mLc
  rw [hi]
  simp only [Option.bind_some, h1]
  have : rs.length ≤ 16777216 := by
    have h3 := congrArg List.length h2
    simp only [List.length_map] at h3
    rw [h3]
    exact Nat.le_trans (List.length_filter_le _ _) hn
  rw [if_pos (decide_eq_true (by rw [sizeLine_val]; exact this)), h2]
/-- .. with no condition -/
theorem mLc_a {α : Type} {mi : Fi} {vs : List Nat} {tg : Fg} {me : Fm} {env : Env} (F : α → D) (xs : List α) (g : α → D) {b : Bool} (hi : mi env = some (xs.map F, b)) (hn : xs.length ≤ 16777216)
    (h : ∀ x ∈ xs, ∃ e1, tg (wipeE env vs) (F x) = some e1 ∧ ∃ sh, me e1 = some ⟨sh, g x, []⟩) : mLc .s mi vs tg mYes me env = some ⟨.l .s, .list (xs.map g), []⟩ := by
  have := mLc_f (mt := mYes) F xs (fun _ => true) g hi hn fun x hx => by
    obtain ⟨e1, h1, sh, h2⟩ := h x hx
    exact ⟨e1, h1, rfl, fun _ => ⟨sh, h2⟩⟩
  rw [this, List.filter_eq_self.mpr (fun _ _ => rfl)]
theorem sum_ints (ns : List Int) : gSum [.list (ns.map .int)] = some (.int ns.sum) := by
  show (intsOf (ns.map .int)).bind _ = _
  rw [intsOf_map]; rfl
theorem all_bls (ns : List Bool) : gAll [.list (ns.map .bool)] = some (.bool (ns.all id)) := by
  show (blsOf (ns.map .bool)).bind _ = _
  rw [blsOf_map]; rfl
theorem any_bls (ns : List Bool) : gAny [.list (ns.map .bool)] = some (.bool (ns.any id)) := by
  show (blsOf (ns.map .bool)).bind _ = _
  rw [blsOf_map]; rfl
theorem sum_f {α : Type} (f : α → Int) (xs : List α) : gSum [.list (xs.map fun x => PySem.PyData.int (f x))] = some (.int (xs.map f).sum) := by
  rw [← sum_ints, List.map_map]; rfl
theorem all_f {α : Type} (f : α → Bool) (xs : List α) : gAll [.list (xs.map fun x => .bool (f x))] = some (.bool (xs.all f)) := by
  have := all_bls (xs.map f)
  rw [List.map_map] at this
  refine this.trans ?_
  rw [List.all_map]; rfl
theorem any_f {α : Type} (f : α → Bool) (xs : List α) : gAny [.list (xs.map fun x => .bool (f x))] = some (.bool (xs.any f)) := by
  have := any_bls (xs.map f)
  rw [List.map_map] at this
  refine this.trans ?_
  rw [List.any_map]; rfl
theorem rngD_map (lo : Int) (n : Nat) : rngD lo n = (List.range n).map fun i => .int (lo + (i : Nat)) := rfl
end M

set_option linter.all false
set_option maxRecDepth 100000
/-! Ev3: order, equality, greatest and least. -/
namespace M
open PySem PySem.Spec L2
theorem ix_l0 (ds : List D) (d0 : D) (t : Sh) (a b : List Nat) : gIx ⟨.s, .list (d0 :: ds), a⟩ ⟨t, .int 0, b⟩ = some ⟨.s, d0, []⟩ := ix_sl _ _ _ _ _ _ (by decide) rfl
theorem ix_l0L (ds : List D) (d0 : D) (t : Sh) (a b : List Nat) : gIx ⟨.l .s, .list (d0 :: ds), a⟩ ⟨t, .int 0, b⟩ = some ⟨.s, d0, []⟩ := ix_ll _ _ _ _ _ _ (by decide) rfl
theorem tgN_bind {i : Nat} {env : Env} {d : D} {f : Fs} (h : i < env.length) : (tgN i env d).bind f = f (env.set i (some (.s, d))) := by
  unfold tgN store
  rw [if_pos h]
  rfl
theorem mFor_of {mi : Fi} {tg : Fg} {body : Fs} {env : Env} {ds : List D} {o : Option Out} (hi : mi env = some (ds, false)) (h : forL (fun d e => (tg e d).bind body) ds env = o) : mFor mi tg body env = o := by
  unfold mFor; rw [hi]; exact h
theorem runF_rt {n : Nat} {body : Fs} {ds : List D} {env : Env} {sh : Sh} {d : D} (he : ds.map (fun d => some (Sh.s, d)) ++ List.replicate (n - ds.length) none = env) (h : body env = some (.rt sh d)) : runF n body ds = some (sh, d) := by
  unfold runF; rw [he, h]
theorem depthAll_f {α : Type} {f : α → D} {n : Nat} (h : ∀ x, (f x).depth ≤ n) : ∀ xs : List α, PyData.depthAll (xs.map f) ≤ n
  | [] => Nat.zero_le _
  | x :: xs => by
    rw [List.map_cons, PyData.depthAll]
    exact Nat.max_le.mpr ⟨h x, depthAll_f h xs⟩
def pairD (p : Int × Int) : D := .tuple [.int p.1, .int p.2]
theorem pairD_depth (p : Int × Int) : (pairD p).depth ≤ 1 := by
  unfold pairD; simp [PyData.depth, PyData.depthAll]
theorem pairD_alike (p q : Int × Int) : PySem.W.alike (pairD p) (pairD q) = true := by
  unfold pairD; simp [PySem.W.alike, PySem.W.alikeAll]
theorem gSort_pairs (xs : List (Int × Int)) (h : xs.length ≤ 16777216) : ∃ ys : List (Int × Int), gSort (xs.map pairD) = some (ys.map pairD) ∧ ys.length = xs.length ∧ (∀ y, y ∈ ys ↔ y ∈ xs) ∧ ∀ y, ys[0]? = some y → ∀ x ∈ xs, y.1 ≤ x.1 := by
  let r : Int × Int → Int × Int → Bool := fun p q => decide (p.1 < q.1 ∨ (p.1 = q.1 ∧ p.2 ≤ q.2))
  have hr : ∀ p q, r p q = PySem.W.dataLe false id (pairD p) (pairD q) := by
    intro p q
    have := congrFun (congrFun (PySem.W.dataLe_ii (β := Int × Int) Prod.fst Prod.snd) p) q
    exact this.symm
  have hm : (xs.mergeSort r).map pairD = (xs.map pairD).mergeSort (PySem.W.dataLe false id) := List.map_mergeSort fun a _ b _ => hr a b
  have hp : (xs.mergeSort r).Perm xs := List.mergeSort_perm xs r
  refine ⟨xs.mergeSort r, ?_, hp.length_eq, fun y => hp.mem_iff, fun y hy x hx => ?_⟩
  · unfold gSort
    rw [if_pos, hm]
    rw [Bool.and_eq_true, decide_eq_true_eq, sizeLine_val, List.length_map]
    refine ⟨?_, h⟩
    unfold sortOk
    simp only [Bool.and_eq_true, Bool.or_eq_true, List.all_eq_true, List.mem_map, forall_exists_index, and_imp, forall_apply_eq_imp_iff₂, decide_eq_true_eq]
    refine ⟨⟨fun a _ b _ => pairD_alike a b, .inl fun a _ => rfl⟩, fun a _ => Nat.le_trans (pairD_depth a) (by decide)⟩
  · have hs : (xs.mergeSort r).Pairwise fun a b => r a b = true := by
      apply List.pairwise_mergeSort
      · intro a b c h1 h2
        simp only [r, decide_eq_true_eq] at *
        omega
      · intro a b
        simp only [r, Bool.or_eq_true, decide_eq_true_eq]
        omega
    have hx' : x ∈ xs.mergeSort r := hp.mem_iff.mpr hx
    cases hl : xs.mergeSort r with
    | nil => rw [hl] at hx'; cases hx'
    | cons z zs =>
      rw [hl] at hs hx' hy
      have : z = y := by simpa using hy
      subst this
      rcases List.mem_cons.mp hx' with rfl | hx'
      · exact Int.le_refl _
      · have := (List.pairwise_cons.mp hs).1 x hx'
        simp only [r, decide_eq_true_eq] at this
        omega
theorem alikeB_f {α : Type} {f : α → D} (h1 : ∀ x y, PySem.W.alike (f x) (f y) = true) (h2 : ∀ x, f x ≠ .none) (h3 : ∀ x, (f x).depth ≤ 50) (xs : List α) : alikeB (xs.map f) = true := by
  unfold alikeB
  simp only [Bool.and_eq_true, List.all_eq_true, List.mem_map, forall_exists_index, and_imp, forall_apply_eq_imp_iff₂, decide_eq_true_eq]
  refine ⟨⟨fun a _ b _ => h1 a b, fun a _ => ?_⟩, depthAll_f h3 xs⟩
  have := h2 a
  split
  · rename_i e; exact absurd e this
  · rfl
theorem min_mem (x : D) : ∀ xs : List D, PySem.W.minD x xs ∈ x :: xs := by
  intro xs
  unfold PySem.W.minD
  induction xs generalizing x with
  | nil => exact List.mem_cons_self
  | cons y ys ih =>
    rw [List.foldl_cons]
    have := ih (if PySem.W.dataLt y x then y else x)
    rcases List.mem_cons.mp this with h | h
    · rw [h]; split
      · exact List.mem_cons_of_mem _ List.mem_cons_self
      · exact List.mem_cons_self
    · exact List.mem_cons_of_mem _ (List.mem_cons_of_mem _ h)
theorem gMin_pairs (xs : List (Int × Int)) (h : 0 < xs.length) : ∃ y ∈ xs, gMin (xs.map pairD) = some (pairD y) := by
  have ha := alikeB_f pairD_alike (fun p => by unfold pairD; intro e; cases e) (fun p => Nat.le_trans (pairD_depth p) (by decide)) xs
  cases xs with
  | nil => exact absurd h (by decide)
  | cons x xs =>
    have := min_mem (pairD x) (xs.map pairD)
    rw [← List.map_cons, List.mem_map] at this
    obtain ⟨y, hy, e⟩ := this
    refine ⟨y, hy, ?_⟩
    rw [List.map_cons] at *
    unfold gMin
    simp only [ha, if_true, e]
def maxI : List Int → Int
  | [] => 0
  | n :: ns => ns.foldl max n
theorem foldl_max_le : ∀ (ns : List Int) (n : Int), n ≤ ns.foldl max n ∧ ∀ x ∈ ns, x ≤ ns.foldl max n
  | [], n => ⟨Int.le_refl _, fun x hx => by cases hx⟩
  | m :: ns, n => by
    have := foldl_max_le ns (max n m)
    rw [List.foldl_cons]
    refine ⟨by omega, fun x hx => ?_⟩
    rcases List.mem_cons.mp hx with rfl | hx
    · omega
    · exact this.2 x hx
theorem foldl_max_mem : ∀ (ns : List Int) (n : Int), ns.foldl max n = n ∨ ns.foldl max n ∈ ns
  | [], n => .inl rfl
  | m :: ns, n => by
    rw [List.foldl_cons]
    rcases foldl_max_mem ns (max n m) with h | h
    · rw [h]
      rcases (by omega : max n m = n ∨ max n m = m) with e | e
      · exact .inl e
      · rw [e]; exact .inr List.mem_cons_self
    · exact .inr (List.mem_cons_of_mem _ h)
theorem maxI_le {ns : List Int} {x : Int} (h : x ∈ ns) : x ≤ maxI ns := by
  cases ns with
  | nil => cases h
  | cons n ns =>
    rcases List.mem_cons.mp h with rfl | h
    · exact (foldl_max_le ns x).1
    · exact (foldl_max_le ns n).2 x h
theorem maxI_mem {ns : List Int} (h : 0 < ns.length) : maxI ns ∈ ns := by
  cases ns with
  | nil => cases h
  | cons n ns =>
    rcases foldl_max_mem ns n with e | e
    · exact List.mem_cons.mpr (.inl e)
    · exact List.mem_cons_of_mem _ e
theorem gMax_ints (ns : List Int) (h : 0 < ns.length) : gMax (ns.map .int) = some (.int (maxI ns)) := by
  have ha := alikeB_f (f := PyData.int) (fun a b => by simp only [PySem.W.alike]) (fun p e => by cases e) (fun p => Nat.zero_le _) ns
  cases ns with
  | nil => exact absurd h (by decide)
  | cons x xs =>
    rw [List.map_cons] at *
    unfold gMax maxI
    simp only [ha, if_true, PySem.W.maxD_ints]
theorem gMax_f {α : Type} (f : α → Int) (xs : List α) (h : 0 < xs.length) : gMax (xs.map fun x => PyData.int (f x)) = some (.int (maxI (xs.map f))) := by
  rw [← gMax_ints _ (by rw [List.length_map]; exact h), List.map_map]; rfl
/-! ### equality -/
theorem beqD {α : Type} [BEq α] [LawfulBEq α] [DecidableEq α] (a b : α) : (a == b) = decide (a = b) := by
  rw [Bool.eq_iff_iff, beq_iff_eq, decide_eq_true_eq]
theorem gEq_of {a b : D} {k : Bool} (h : min a.depth b.depth ≤ 64) (e : PyData.eqv a b = k) : gEq a b = some (.bool k) := by
  unfold gEq; rw [if_pos h, e]
theorem gNe_of {a b : D} {k : Bool} (h : min a.depth b.depth ≤ 64) (e : PyData.eqv a b = k) : gNe a b = some (.bool (!k)) := by
  unfold gNe; rw [if_pos h, e]
theorem ne_self (a : D) (h : a.depth ≤ 64) (hp : a.plain = true) (s t : Sh) (x y : List Nat) : g2S gNe ⟨s, a, x⟩ ⟨t, a, y⟩ = some ⟨.s, .bool false, []⟩ := by
  unfold g2S; simp only [gNe_of (by omega : min a.depth a.depth ≤ 64) (PySem.SeqAt.eqv_refl_plain a hp)]; rfl
theorem eqvAll_ints : ∀ xs ys : List Int, PyData.eqvAll (xs.map .int) (ys.map .int) = decide (xs = ys)
  | [], [] => by simp [PyData.eqvAll]
  | [], _ :: _ => by simp [PyData.eqvAll]
  | _ :: _, [] => by simp [PyData.eqvAll]
  | x :: xs, y :: ys => by
    rw [List.map_cons, List.map_cons, PyData.eqvAll, eqv_int, eqvAll_ints xs ys]
    by_cases h : x = y <;> simp [h]
theorem eq_ints (xs ys : List Int) (s t : Sh) (x y : List Nat) : g2S gEq ⟨s, .list (xs.map .int), x⟩ ⟨t, .list (ys.map .int), y⟩ = some ⟨.s, .bool (decide (xs = ys)), []⟩ := by
  have hd : (PyData.list (xs.map .int)).depth ≤ 64 := by
    rw [PyData.depth]
    have := depthAll_f (f := PyData.int) (n := 0) (fun x => Nat.le_refl _) xs
    omega
  unfold g2S; simp only [gEq_of (by omega : min (PyData.list (xs.map .int)).depth (PyData.list (ys.map .int)).depth ≤ 64) (show PyData.eqv (.list (xs.map .int)) (.list (ys.map .int)) = decide (xs = ys) by rw [PyData.eqv]; exact eqvAll_ints xs ys)]; rfl
theorem eq_ss (a b : Str) (s t : Sh) (x y : List Nat) : g2S gEq ⟨s, .str a, x⟩ ⟨t, .str b, y⟩ = some ⟨.s, .bool (decide (a = b)), []⟩ := by
  unfold g2S; simp only [gEq_of (k := decide (a = b)) (show min (PyData.str a).depth (PyData.str b).depth ≤ 64 from Nat.zero_le _) (by rw [PyData.eqv]; exact beqD a b)]; rfl
theorem ne_ss (a b : Str) (s t : Sh) (x y : List Nat) : g2S gNe ⟨s, .str a, x⟩ ⟨t, .str b, y⟩ = some ⟨.s, .bool (decide (a ≠ b)), []⟩ := by
  unfold g2S; simp only [gNe_of (k := decide (a = b)) (show min (PyData.str a).depth (PyData.str b).depth ≤ 64 from Nat.zero_le _) (by rw [PyData.eqv]; exact beqD a b)]
  by_cases h : a = b <;> simp [h]
theorem eq_bb (a b : Bool) (s t : Sh) (x y : List Nat) : g2S gEq ⟨s, .bool a, x⟩ ⟨t, .bool b, y⟩ = some ⟨.s, .bool (decide (a = b)), []⟩ := by
  unfold g2S; simp only [gEq_of (k := decide (a = b)) (show min (PyData.bool a).depth (PyData.bool b).depth ≤ 64 from Nat.zero_le _) (by rw [PyData.eqv]; exact beqD a b)]; rfl
theorem ne_bb (a b : Bool) (s t : Sh) (x y : List Nat) : g2S gNe ⟨s, .bool a, x⟩ ⟨t, .bool b, y⟩ = some ⟨.s, .bool (decide (a ≠ b)), []⟩ := by
  unfold g2S; simp only [gNe_of (k := decide (a = b)) (show min (PyData.bool a).depth (PyData.bool b).depth ≤ 64 from Nat.zero_le _) (by rw [PyData.eqv]; exact beqD a b)]
  by_cases h : a = b <;> simp [h]
end M

set_option linter.all false
/-! Ev4: statements reckoned without looking ahead. -/
namespace M
open PySem PySem.Spec L2
def seqK (o : Option Out) (b : Fs) : Option Out := o.bind fun o => match o with
  | .nx e => b e
  | .bk e => some (.bk e)
  | .ct e => some (.ct e)
  | .rt s d => some (.rt s d)
theorem mSeq_K (a b : Fs) (env : Env) : mSeq a b env = seqK (a env) b := by
  unfold mSeq seqK
  cases h : a env with
  | none => rfl
  | some o => cases o <;> rfl
theorem seqK_nx (e : Env) (b : Fs) : seqK (some (.nx e)) b = b e := rfl
theorem seqK_bk (e : Env) (b : Fs) : seqK (some (.bk e)) b = some (.bk e) := rfl
theorem seqK_ct (e : Env) (b : Fs) : seqK (some (.ct e)) b = some (.ct e) := rfl
theorem seqK_rt (s : Sh) (d : D) (b : Fs) : seqK (some (.rt s d)) b = some (.rt s d) := rfl
def ifK (c : Option Bool) (a b : Fs) (env : Env) : Option Out := c.bind fun x => if x then a env else b env
theorem mIfS_K (c : Ft) (a b : Fs) (env : Env) : mIfS c a b env = ifK (c env) a b env := rfl
theorem ifK_t (a b : Fs) (env : Env) : ifK (some true) a b env = a env := rfl
theorem ifK_f (a b : Fs) (env : Env) : ifK (some false) a b env = b env := rfl
theorem ifK_d (p : Prop) [Decidable p] (a b : Fs) (env : Env) : ifK (some (decide p)) a b env = if p then a env else b env := by
  unfold ifK; by_cases h : p <;> simp [h]
def andK (c : Option Bool) (b : Ft) (env : Env) : Option Bool := c.bind fun x => if x then b env else some false
theorem mAnd_K (a b : Ft) (env : Env) : mAnd a b env = andK (a env) b env := rfl
theorem andK_t (b : Ft) (env : Env) : andK (some true) b env = b env := rfl
theorem andK_f (b : Ft) (env : Env) : andK (some false) b env = some false := rfl
def orK (c : Option Bool) (b : Ft) (env : Env) : Option Bool := c.bind fun x => if x then some true else b env
theorem mOr_K (a b : Ft) (env : Env) : mOr a b env = orK (a env) b env := rfl
theorem orK_t (b : Ft) (env : Env) : orK (some true) b env = some true := rfl
theorem orK_f (b : Ft) (env : Env) : orK (some false) b env = b env := rfl
theorem cat_if (xs ys : List D) (s t : Sh) (a b : List Nat) (hs : s = .s ∨ s = .l .s) (ht : t = .s ∨ t = .l .s) : gAdd ⟨s, .list xs, a⟩ ⟨t, .list ys, b⟩ = if xs.length + ys.length ≤ 16777216 then some ⟨.l .s, .list (xs ++ ys), []⟩ else none := by
  have h1 : elemsL ⟨s, .list xs, a⟩ = some xs := by rcases hs with rfl | rfl <;> rfl
  have h2 : elemsL ⟨t, .list ys, b⟩ = some ys := by rcases ht with rfl | rfl <;> rfl
  have h3 : gCat ⟨s, .list xs, a⟩ ⟨t, .list ys, b⟩ = if xs.length + ys.length ≤ 16777216 then some ⟨.l .s, .list (xs ++ ys), []⟩ else none := by
    unfold gCat; rw [h1, h2, sizeLine_val]; rfl
  have h6 : gCatS ⟨s, .list xs, a⟩ ⟨t, .list ys, b⟩ = none := rfl
  have h7 : gCatT ⟨s, .list xs, a⟩ ⟨t, .list ys, b⟩ = none := by rcases hs with rfl | rfl <;> rfl
  have h5 : gI (fun _ _ => true) (fun i j => PyData.int (i + j)) ⟨s, .list xs, a⟩ ⟨t, .list ys, b⟩ = none := rfl
  have h8 : ∀ f g : R → R → Option R, g2or f g ⟨s, .list xs, a⟩ ⟨t, .list ys, b⟩ = (f ⟨s, .list xs, a⟩ ⟨t, .list ys, b⟩).or (g ⟨s, .list xs, a⟩ ⟨t, .list ys, b⟩) := fun _ _ => rfl
  unfold gAdd
  rw [h8, h8, h8, h5, h6, h7, h3]
  split <;> rfl
theorem cat_if_sl (xs ys : List D) (a b : List Nat) : gAdd ⟨.s, .list xs, a⟩ ⟨.l .s, .list ys, b⟩ = if xs.length + ys.length ≤ 16777216 then some ⟨.l .s, .list (xs ++ ys), []⟩ else none := cat_if xs ys _ _ a b (.inl rfl) (.inr rfl)
theorem cat_if_ll (xs ys : List D) (a b : List Nat) : gAdd ⟨.l .s, .list xs, a⟩ ⟨.l .s, .list ys, b⟩ = if xs.length + ys.length ≤ 16777216 then some ⟨.l .s, .list (xs ++ ys), []⟩ else none := cat_if xs ys _ _ a b (.inr rfl) (.inr rfl)
end M

set_option Elab.async false
set_option linter.all false
set_option maxRecDepth 100000
namespace K56
open PySem PySem.Spec L2 M
def topS (i : Nat) : Stmt := PySem.Challenge.pw_screenspoken_k56_judge_of_dated_notes.main.body.getD i (.Pass ⟨0, 0, 0, 0⟩)
/-! _law_accepts: slots 0=notes 1=verdict 2=s 3=t 4=note 5=heard 6=now 7=number 8=begin 9=end -/
abbrev s_law_accepts : Stmt := topS 11
abbrev n_law_accepts : List Str := ["notes", "verdict", "s", "t", "note", "heard", "now", "number", "begin", "end"]
theorem sc_law_accepts : FnScope n_law_accepts ["notes", "verdict"] (defScope s_law_accepts) := ⟨rfl, rfl, rfl, by decide +kernel, rfl, by decide +kernel, by decide +kernel⟩
/-! _law_bent: slots 0=pieces 1=draws 2=count 3=found 4=at 5=number 6=begin 7=end 8=cut 9=changed 10=some 11=other 12=twin -/
abbrev s_law_bent : Stmt := topS 13
abbrev n_law_bent : List Str := ["pieces", "draws", "count", "found", "at", "number", "begin", "end", "cut", "changed", "some", "other", "twin"]
theorem sc_law_bent : FnScope n_law_bent ["pieces", "draws", "count"] (defScope s_law_bent) := ⟨rfl, rfl, rfl, by decide +kernel, rfl, by decide +kernel, by decide +kernel⟩
/-! _law_cell: slots 0=script 1=k -/
abbrev s_law_cell : Stmt := topS 5
abbrev n_law_cell : List Str := ["script", "k"]
theorem sc_law_cell : FnScope n_law_cell ["script", "k"] (defScope s_law_cell) := ⟨rfl, rfl, rfl, by decide +kernel, rfl, by decide +kernel, by decide +kernel⟩
/-! _law_numbers: slots 0=cell 1=count 2=limit 3=small 4=rest 5=found 6=k 7=mixed -/
abbrev s_law_numbers : Stmt := topS 6
abbrev n_law_numbers : List Str := ["cell", "count", "limit", "small", "rest", "found", "k", "mixed"]
theorem sc_law_numbers : FnScope n_law_numbers ["cell", "count", "limit"] (defScope s_law_numbers) := ⟨rfl, rfl, rfl, by decide +kernel, rfl, by decide +kernel, by decide +kernel⟩
/-! _law_dated: slots 0=script 1=at 2=most 3=shape 4=found 5=k 6=draws 7=start 8=size 9=room -/
abbrev s_law_dated : Stmt := topS 7
abbrev n_law_dated : List Str := ["script", "at", "most", "shape", "found", "k", "draws", "start", "size", "room"]
theorem sc_law_dated : FnScope n_law_dated ["script", "at", "most"] (defScope s_law_dated) := ⟨rfl, rfl, rfl, by decide +kernel, rfl, by decide +kernel, by decide +kernel⟩
/-! _law_pieces: slots 0=told 1=found 2=now 3=last -/
abbrev s_law_pieces : Stmt := topS 9
abbrev n_law_pieces : List Str := ["told", "found", "now", "last"]
theorem sc_law_pieces : FnScope n_law_pieces ["told"] (defScope s_law_pieces) := ⟨rfl, rfl, rfl, by decide +kernel, rfl, by decide +kernel, by decide +kernel⟩
/-! _law_later_first: slots 0=notes 1=left 2=note 3=told 4=now 5=some 6=k 7=tight 8=pair -/
abbrev s_law_later_first : Stmt := topS 12
abbrev n_law_later_first : List Str := ["notes", "left", "note", "told", "now", "some", "k", "tight", "pair"]
theorem sc_law_later_first : FnScope n_law_later_first ["notes"] (defScope s_law_later_first) := ⟨rfl, rfl, rfl, by decide +kernel, rfl, by decide +kernel, by decide +kernel⟩
/-! _law_moments: slots 0=notes 1=draws 2=starts 3=note 4=ends 5=found 6=s 7=t -/
abbrev s_law_moments : Stmt := topS 14
abbrev n_law_moments : List Str := ["notes", "draws", "starts", "note", "ends", "found", "s", "t"]
theorem sc_law_moments : FnScope n_law_moments ["notes", "draws"] (defScope s_law_moments) := ⟨rfl, rfl, rfl, by decide +kernel, rfl, by decide +kernel, by decide +kernel⟩
/-! _law_told_moments: slots 0=notes 1=left 2=note 3=told 4=now 5=late 6=k 7=some -/
abbrev s_law_told_moments : Stmt := topS 8
abbrev n_law_told_moments : List Str := ["notes", "left", "note", "told", "now", "late", "k", "some"]
theorem sc_law_told_moments : FnScope n_law_told_moments ["notes"] (defScope s_law_told_moments) := ⟨rfl, rfl, rfl, by decide +kernel, rfl, by decide +kernel, by decide +kernel⟩
/-! _law_verdict: slots 0=notes 1=told 2=late 3=begin 4=back -/
abbrev s_law_verdict : Stmt := topS 10
abbrev n_law_verdict : List Str := ["notes", "told", "late", "begin", "back"]
theorem sc_law_verdict : FnScope n_law_verdict ["notes"] (defScope s_law_verdict) := ⟨rfl, rfl, rfl, by decide +kernel, rfl, by decide +kernel, by decide +kernel⟩
/-! is_piece: slots 0=notes 1=piece 2=number 3=begin 4=end -/
abbrev s_is_piece : Stmt := topS 1
abbrev n_is_piece : List Str := ["notes", "piece", "number", "begin", "end"]
theorem sc_is_piece : FnScope n_is_piece ["notes", "piece"] (defScope s_is_piece) := ⟨rfl, rfl, rfl, by decide +kernel, rfl, by decide +kernel, by decide +kernel⟩
/-! is_plan: slots 0=notes 1=pieces 2=piece 3=k 4=told 5=note 6=number 7=begin 8=end -/
abbrev s_is_plan : Stmt := topS 2
abbrev n_is_plan : List Str := ["notes", "pieces", "piece", "k", "told", "note", "number", "begin", "end"]
theorem sc_is_plan : FnScope n_is_plan ["notes", "pieces"] (defScope s_is_plan) := ⟨rfl, rfl, rfl, by decide +kernel, rfl, by decide +kernel, by decide +kernel⟩
/-! judge_dated: slots 0=notes 1=verdict 2=_ 3=begin 4=end 5=demand 6=at 7=due 8=beats -/
abbrev s_judge_dated : Stmt := topS 3
abbrev n_judge_dated : List Str := ["notes", "verdict", "_", "begin", "end", "demand", "at", "due", "beats"]
theorem sc_judge_dated : FnScope n_judge_dated ["notes", "verdict"] (defScope s_judge_dated) := ⟨rfl, rfl, rfl, by decide +kernel, rfl, by decide +kernel, by decide +kernel⟩
/-! law: slots 0=script 1=notes 2=others 3=draws 4=verdict 5=pieces 6=papers 7=some 8=bent 9=s 10=t 11=kinds 12=kept 13=paper 14=passed 15=told 16=kind -/
abbrev s_law : Stmt := topS 15
abbrev n_law : List Str := ["script", "notes", "others", "draws", "verdict", "pieces", "papers", "some", "bent", "s", "t", "kinds", "kept", "paper", "passed", "told", "kind"]
theorem sc_law : FnScope n_law ["script"] (defScope s_law) := ⟨rfl, rfl, rfl, by decide +kernel, rfl, by decide +kernel, by decide +kernel⟩
structure Txt (K : PySem.W.Frag) (mg : Str → Option Value) : Prop where
  f_law_accepts : FA K mg "_law_accepts" "_law_accepts" s_law_accepts ["notes", "verdict"]
  f_law_bent : FA K mg "_law_bent" "_law_bent" s_law_bent ["pieces", "draws", "count"]
  f_law_cell : FA K mg "_law_cell" "_law_cell" s_law_cell ["script", "k"]
  f_law_numbers : FA K mg "_law_numbers" "_law_numbers" s_law_numbers ["cell", "count", "limit"]
  f_law_dated : FA K mg "_law_dated" "_law_dated" s_law_dated ["script", "at", "most"]
  f_law_pieces : FA K mg "_law_pieces" "_law_pieces" s_law_pieces ["told"]
  f_law_later_first : FA K mg "_law_later_first" "_law_later_first" s_law_later_first ["notes"]
  f_law_moments : FA K mg "_law_moments" "_law_moments" s_law_moments ["notes", "draws"]
  f_law_told_moments : FA K mg "_law_told_moments" "_law_told_moments" s_law_told_moments ["notes"]
  f_law_verdict : FA K mg "_law_verdict" "_law_verdict" s_law_verdict ["notes"]
  f_is_piece : FA K mg "is_piece" "is_piece" s_is_piece ["notes", "piece"]
  f_is_plan : FA K mg "is_plan" "is_plan" s_is_plan ["notes", "pieces"]
  f_judge_dated : FA K mg "judge_dated" "judge_dated" s_judge_dated ["notes", "verdict"]
  f_law : FA K mg "law" "law" s_law ["script"]
  b_all : mg "all" = none
  b_any : mg "any" = none
  b_bool : mg "bool" = none
  b_int : mg "int" = none
  b_isinstance : mg "isinstance" = none
  b_len : mg "len" = none
  b_list : mg "list" = none
  b_max : mg "max" = none
  b_min : mg "min" = none
  b_range : mg "range" = none
  b_sorted : mg "sorted" = none
  b_sum : mg "sum" = none
def l1_law_accepts : Fs := mSeq (mIfS (mOr (mTv (m2 gLt (mVar 7) (mC (.int 0)))) (mOr (mTv (m2 gGe (mVar 7) (mCS gLen (mCons (mVar 0) (mNil))))) (mOr (mTv (m2 gGe (mVar 8) (mVar 9))) (mTv (m2 gLt (mVar 8) (mVar 6)))))) (mRet (xOf (mC (.bool false)))) (mSkip)) (mSeq (mIfS (mOr (mTv (m2 gLt (mVar 8) (m2 gIx (m2 gIx (mVar 0) (mVar 7)) (mC (.int 0))))) (mTv (m2 gGt (mVar 9) (m2 gIx (m2 gIx (mVar 0) (mVar 7)) (mC (.int 1)))))) (mRet (xOf (mC (.bool false)))) (mSkip)) (mSeq (mSetF 6 (xOf (mVar 9))) (mPut 5 (m2 gSub (m2 gAdd (m2 gIx (mVar 5) (mVar 7)) (mVar 9)) (mVar 8)) (pVar 5) (mVar 7))))
def b_law_accepts : Fs := mSeq (mIfS (mAnd (mTv (m2 (g2S gEq) (mCS gLen (mCons (mVar 1) (mNil))) (mC (.int 3)))) (mTv (m2 (g2S gEq) (m2 gIx (mVar 1) (mC (.int 0))) (mC (.str "full"))))) (mSeq (mSetF 2 (xOf (m2 gIx (mVar 1) (mC (.int 1))))) (mSeq (mSetF 3 (xOf (m2 gIx (mVar 1) (mC (.int 2))))) (mRet (xOf (mAndV (m2 gGe (mVar 2) (mC (.int 0))) (mAndV (m2 gLt (mVar 2) (mVar 3)) (m2 gGt (mCS gSum (mCons (mLc (.s) (iSq (mVar 0)) [4] (tgN 4) (mAnd (mTv (m2 gGe (m2 gIx (mVar 4) (mC (.int 0))) (mVar 2))) (mTv (m2 gLe (m2 gIx (mVar 4) (mC (.int 1))) (mVar 3)))) (m2 gIx (mVar 4) (mC (.int 2)))) (mNil))) (m2 gSub (mVar 3) (mVar 2))))))))) (mSkip)) (mSeq (mIfS (mOr (mTv (m2 (g2S gNe) (mCS gLen (mCons (mVar 1) (mNil))) (mC (.int 2)))) (mTv (m2 (g2S gNe) (m2 gIx (mVar 1) (mC (.int 0))) (mC (.str "plan"))))) (mRet (xOf (mC (.bool false)))) (mSkip)) (mSeq (mSet 5 (xOf (mLc (.s) (iSq (mVar 0)) [4] (tgN 4) (mYes) (mC (.int 0))))) (mSeq (mSet 6 (xOf (mC (.int 0)))) (mSeq (mFor (iSq (m2 gIx (mVar 1) (mC (.int 1)))) (tgT [7, 8, 9]) l1_law_accepts) (mRet (xOf (m2 (g2S gEq) (mVar 5) (mLc (.s) (iSq (mVar 0)) [4] (tgN 4) (mYes) (m2 gIx (mVar 4) (mC (.int 2)))))))))))
def m_law_accepts : Fun1 := runF 10 b_law_accepts
def l1_law_bent : Fs := mExp (mApp 3 (pVar 3) (m2 gAdd (m2 gAdd (mSl (mVar 0) (oSo (mC (.int 0))) (oSo (mVar 4))) (mVar 10)) (mSl (mVar 0) (oSo (m2 gAdd (mVar 4) (mC (.int 1)))) (oNo))))
def b_law_bent : Fs := mSeq (mSet 3 (xOf (mLst (mCons (mVar 0) (mCons (mRevL (mVar 0)) (mCons (m2 gAdd (mVar 0) (mSl (mVar 0) (oSo (mC (.int 0))) (oSo (mC (.int 1))))) (mCons (mLst (mNil)) (mCons (mSl (mVar 0) (oSo (mC (.int 1))) (oNo)) (mCons (mSl (mVar 0) (oSo (mC (.int 0))) (oSo (m2 gSub (mCS gLen (mCons (mVar 0) (mNil))) (mC (.int 1))))) (mNil)))))))))) (mSeq (mIfS (mTv (m2 (g2S gEq) (mCS gLen (mCons (mVar 0) (mNil))) (mC (.int 0)))) (mRet (xOf (mVar 3))) (mSkip)) (mSeq (mSet 4 (xOf (m2 gMod (m2 gIx (mVar 1) (mC (.int 0))) (mCS gLen (mCons (mVar 0) (mNil)))))) (mSeq (mSetT (m2 gIx (mVar 0) (mVar 4)) (tgT [5, 6, 7])) (mSeq (mSet 8 (xOf (m2 gAdd (mVar 6) (m2 gMod (m2 gIx (mVar 1) (mC (.int 1))) (m2 gAdd (m2 gSub (mVar 7) (mVar 6)) (mC (.int 1))))))) (mSeq (mSetF 9 (xOf (mLst (mCons (mLst (mCons (mTup (mCons (mVar 5) (mCons (mVar 6) (mCons (mVar 8) (mNil))))) (mCons (mTup (mCons (mVar 5) (mCons (mVar 8) (mCons (mVar 7) (mNil))))) (mNil)))) (mCons (mLst (mCons (mTup (mCons (mVar 5) (mCons (m2 gAdd (mVar 6) (mC (.int 1))) (mCons (m2 gAdd (mVar 7) (mC (.int 1))) (mNil))))) (mNil))) (mCons (mLst (mCons (mTup (mCons (mVar 5) (mCons (m2 gSub (mVar 6) (mC (.int 1))) (mCons (m2 gSub (mVar 7) (mC (.int 1))) (mNil))))) (mNil))) (mNil))))))) (mSeq (mSetF 9 (xOf (m2 gAdd (mVar 9) (mLst (mCons (mLst (mCons (mTup (mCons (mVar 5) (mCons (mVar 6) (mCons (m2 gAdd (mVar 7) (mC (.int 1))) (mNil))))) (mNil))) (mCons (mLst (mCons (mTup (mCons (mVar 5) (mCons (m2 gAdd (mVar 6) (mC (.int 1))) (mCons (mVar 7) (mNil))))) (mNil))) (mCons (mLst (mCons (mTup (mCons (mVar 5) (mCons (mVar 6) (mCons (m2 gSub (mVar 7) (mC (.int 1))) (mNil))))) (mNil))) (mCons (mLst (mCons (mTup (mCons (mVar 5) (mCons (m2 gSub (mVar 6) (mC (.int 1))) (mCons (mVar 7) (mNil))))) (mNil))) (mNil))))))))) (mSeq (mSetF 9 (xOf (m2 gAdd (mVar 9) (mLst (mCons (mLst (mCons (mTup (mCons (m2 gMod (m2 gIx (mVar 1) (mC (.int 2))) (mVar 2)) (mCons (mVar 6) (mCons (mVar 7) (mNil))))) (mNil))) (mCons (mLst (mCons (mTup (mCons (mVar 2) (mCons (mVar 6) (mCons (mVar 7) (mNil))))) (mNil))) (mCons (mLst (mCons (mTup (mCons (m2 gSub (mVar 5) (mVar 2)) (mCons (mVar 6) (mCons (mVar 7) (mNil))))) (mNil))) (mCons (mLst (mNil)) (mNil))))))))) (mSeq (mSetF 9 (xOf (m2 gAdd (mVar 9) (mLst (mCons (mLst (mCons (mTup (mCons (mVar 5) (mCons (mVar 7) (mCons (mVar 6) (mNil))))) (mNil))) (mCons (mLst (mCons (mTup (mCons (mVar 5) (mCons (mVar 6) (mCons (mVar 6) (mNil))))) (mNil))) (mCons (mLst (mCons (mTup (mCons (mVar 5) (mCons (mVar 8) (mCons (mVar 7) (mNil))))) (mCons (mTup (mCons (mVar 5) (mCons (mVar 6) (mCons (mVar 8) (mNil))))) (mNil)))) (mNil)))))))) (mSeq (mSetF 9 (xOf (m2 gAdd (mVar 9) (mLst (mCons (mLst (mCons (mTup (mCons (mVar 5) (mCons (mVar 6) (mCons (mVar 7) (mNil))))) (mCons (mTup (mCons (mVar 5) (mCons (mVar 7) (mCons (mVar 6) (mNil))))) (mNil)))) (mCons (mLst (mCons (mTup (mCons (m1 gNeg (mC (.int 1))) (mCons (mVar 6) (mCons (mVar 7) (mNil))))) (mNil))) (mNil))))))) (mSeq (mFor (iSq (mVar 9)) (tgN 10) l1_law_bent) (mSeq (mSet 11 (xOf (m2 gMod (m2 gIx (mVar 1) (mC (.int 3))) (mCS gLen (mCons (mVar 0) (mNil)))))) (mSeq (mSet 12 (xOf (mCL some (mVar 0)))) (mSeq (mPut 12 (mTup (mCons (m2 gIx (m2 gIx (mVar 0) (mVar 11)) (mC (.int 0))) (mCons (mVar 6) (mCons (mVar 7) (mNil))))) (pVar 12) (mVar 4)) (mSeq (mPut 12 (mTup (mCons (mVar 5) (mCons (m2 gIx (m2 gIx (mVar 0) (mVar 11)) (mC (.int 1))) (mCons (m2 gIx (m2 gIx (mVar 0) (mVar 11)) (mC (.int 2))) (mNil))))) (pVar 12) (mVar 11)) (mFrz 12 (mRet (xOf (m2 gAdd (mVar 3) (mLst (mCons (mVar 12) (mNil)))))))))))))))))))))
def m_law_bent : Fun1 := runF 13 b_law_bent
def b_law_cell : Fs := mSeq (mIfS (mTv (m2 gLt (mVar 1) (mCS gLen (mCons (mVar 0) (mNil))))) (mRet (xOf (mCS gInt (mCons (m2 gIx (mVar 0) (mVar 1)) (mNil))))) (mSkip)) (mRet (xOf (mC (.int 0))))
def m_law_cell : Fun1 := runF 2 b_law_cell
def l1_law_numbers : Fs := mIfS (mTv (m2 gGt (mVar 4) (mC (.int 0)))) (mSeq (mExp (mApp 5 (pVar 5) (m2 gMod (mCS gInt (mCons (mVar 4) (mNil))) (mVar 2)))) (mSet 4 (xOf (m2 gDiv (mCS gInt (mCons (mVar 4) (mNil))) (mVar 2))))) (mSeq (mSet 7 (xOf (m2 gMod (mCS gInt (mCons (m2 gAdd (m2 gAdd (m2 gMul (mVar 3) (mC (.int 48271))) (m2 gMul (mVar 6) (mC (.int 69621)))) (mC (.int 7))) (mNil))) (mC (.int 2147483647))))) (mSeq (mSet 7 (xOf (m2 gMod (mCS gInt (mCons (m2 gAdd (m2 gAdd (m2 gAdd (m2 gMul (mVar 7) (mVar 7)) (m2 gMul (mVar 7) (mC (.int 40692)))) (m2 gMul (mVar 6) (mC (.int 16807)))) (mC (.int 11))) (mNil))) (mC (.int 2147483399))))) (mExp (mApp 5 (pVar 5) (m2 gMod (mCS gInt (mCons (m2 gDiv (mVar 7) (mC (.int 32))) (mNil))) (mVar 2))))))
def b_law_numbers : Fs := mSeq (mSet 3 (xOf (m2 gMod (mCS gInt (mCons (mVar 0) (mNil))) (mC (.int 2147483647))))) (mSeq (mSet 4 (xOf (mC (.int 0)))) (mSeq (mIfS (mTv (m2 gGe (mVar 0) (m2 gPow (mC (.int 10)) (mC (.int 18))))) (mSet 4 (xOf (mCS gInt (mCons (mVar 0) (mNil))))) (mSkip)) (mSeq (mSet 5 (xOf (mLst (mNil)))) (mSeq (mFor (iR1 (mVar 1)) (tgN 6) l1_law_numbers) (mRet (xOf (mVar 5)))))))
def m_law_numbers : Fun1 := runF 8 b_law_numbers
def l1_law_dated : Fs := mSeq (mSetF 6 (xOf (mCall (m_law_numbers) (mCons (m2 gAdd (mCall (m_law_cell) (mCons (mVar 0) (mCons (m2 gAdd (m2 gAdd (mVar 1) (mC (.int 1))) (mVar 5)) (mNil)))) (m2 gMul (mC (.int 23)) (mVar 5))) (mCons (mC (.int 5)) (mCons (mC (.int 5040)) (mNil))))))) (mSeq (mSet 7 (xOf (m2 gMod (m2 gIx (mVar 6) (mC (.int 0))) (m2 gIx (mLst (mCons (mC (.int 4)) (mCons (mC (.int 12)) (mCons (mC (.int 25)) (mNil))))) (m2 gMod (m2 gIx (mVar 3) (mC (.int 1))) (mC (.int 3))))))) (mSeq (mSet 8 (xOf (m2 gAdd (mC (.int 1)) (m2 gMod (m2 gIx (mVar 6) (mC (.int 1))) (m2 gIx (mLst (mCons (mC (.int 3)) (mCons (mC (.int 6)) (mCons (mC (.int 9)) (mNil))))) (m2 gMod (m2 gIx (mVar 3) (mC (.int 2))) (mC (.int 3)))))))) (mSeq (mSet 9 (xOf (m2 gAdd (mVar 8) (m2 gMod (m2 gIx (mVar 6) (mC (.int 2))) (m2 gIx (mLst (mCons (mC (.int 3)) (mCons (mC (.int 9)) (mCons (mC (.int 30)) (mNil))))) (m2 gMod (m2 gIx (mVar 3) (mC (.int 3))) (mC (.int 3)))))))) (mSeq (mIfS (mTv (m2 (g2S gEq) (m2 gMod (m2 gIx (mVar 6) (mC (.int 3))) (mC (.int 6))) (mC (.int 0)))) (mSet 9 (xOf (m2 gAdd (mC (.int 1)) (m2 gMod (m2 gIx (mVar 6) (mC (.int 4))) (mVar 8))))) (mSkip)) (mExp (mApp 4 (pVar 4) (mTup (mCons (mVar 7) (mCons (m2 gAdd (mVar 7) (mVar 9)) (mCons (mVar 8) (mNil)))))))))))
def b_law_dated : Fs := mSeq (mSetF 3 (xOf (mCall (m_law_numbers) (mCons (mCall (m_law_cell) (mCons (mVar 0) (mCons (mVar 1) (mNil)))) (mCons (mC (.int 4)) (mCons (mC (.int 5040)) (mNil))))))) (mSeq (mSet 4 (xOf (mLst (mNil)))) (mSeq (mFor (iR1 (m2 gAdd (mC (.int 1)) (m2 gMod (m2 gIx (mVar 3) (mC (.int 0))) (mVar 2)))) (tgN 5) l1_law_dated) (mRet (xOf (mVar 4)))))
def m_law_dated : Fun1 := runF 10 b_law_dated
def l1_law_pieces : Fs := mIfS (mTv (mNotN (m2 gIx (mVar 0) (mVar 2)))) (mSeq (mSetF 3 (xOf (mTup (mCons (mC .none) (mCons (mC (.int 0)) (mCons (mC (.int 0)) (mNil))))))) (mSeq (mIfS (mTv (m2 gGt (mCS gLen (mCons (mVar 1) (mNil))) (mC (.int 0)))) (mSetF 3 (xOf (m2 gIx (mVar 1) (m2 gSub (mCS gLen (mCons (mVar 1) (mNil))) (mC (.int 1)))))) (mSkip)) (mIfS (mAnd (mTv (m2 (g2S gEq) (m2 gIx (mVar 3) (mC (.int 0))) (m2 gIx (mVar 0) (mVar 2)))) (mTv (m2 (g2S gEq) (m2 gIx (mVar 3) (mC (.int 2))) (mVar 2)))) (mPut 1 (mTup (mCons (m2 gIx (mVar 3) (mC (.int 0))) (mCons (m2 gIx (mVar 3) (mC (.int 1))) (mCons (m2 gAdd (mVar 2) (mC (.int 1))) (mNil))))) (pVar 1) (m2 gSub (mCS gLen (mCons (mVar 1) (mNil))) (mC (.int 1)))) (mExp (mApp 1 (pVar 1) (mTup (mCons (m2 gIx (mVar 0) (mVar 2)) (mCons (mVar 2) (mCons (m2 gAdd (mVar 2) (mC (.int 1))) (mNil)))))))))) (mSkip)
def b_law_pieces : Fs := mSeq (mSet 1 (xOf (mLst (mNil)))) (mSeq (mFor (iR1 (mCS gLen (mCons (mVar 0) (mNil)))) (tgN 2) l1_law_pieces) (mRet (xOf (mVar 1))))
def m_law_pieces : Fun1 := runF 4 b_law_pieces
def l1_law_later_first : Fs := mSeq (mSetF 5 (xOf (mLc (.s) (iR1 (mCS gLen (mCons (mVar 0) (mNil)))) [6] (tgN 6) (mAnd (mTv (m2 gLe (m2 gIx (m2 gIx (mVar 0) (mVar 6)) (mC (.int 0))) (mVar 4))) (mAnd (mTv (m2 gLt (mVar 4) (m2 gIx (m2 gIx (mVar 0) (mVar 6)) (mC (.int 1))))) (mTv (m2 gGt (m2 gIx (mVar 1) (mVar 6)) (mC (.int 0)))))) (mTup (mCons (m2 gSub (mC (.int 0)) (m2 gIx (m2 gIx (mVar 0) (mVar 6)) (mC (.int 1)))) (mCons (mVar 6) (mNil))))))) (mSeq (mSetF 7 (xOf (mLc (.s) (iSq (mVar 5)) [8] (tgN 8) (mTv (m2 (g2S gEq) (m2 gIx (mVar 1) (m2 gIx (mVar 8) (mC (.int 1)))) (m2 gSub (m2 gIx (m2 gIx (mVar 0) (m2 gIx (mVar 8) (mC (.int 1)))) (mC (.int 1))) (mVar 4)))) (mVar 8)))) (mSeq (mIfS (mTv (m2 gGt (mCS gLen (mCons (mVar 7) (mNil))) (mC (.int 0)))) (mSetF 5 (xOf (mVar 7))) (mSkip)) (mIfS (mTv (m2 gGt (mCS gLen (mCons (mVar 5) (mNil))) (mC (.int 0)))) (mSeq (mExp (mApp 3 (pVar 3) (m2 gIx (mCIL gMin (mVar 5)) (mC (.int 1))))) (mPut 1 (m2 gSub (m2 gIx (mVar 1) (m2 gIx (mCIL gMin (mVar 5)) (mC (.int 1)))) (mC (.int 1))) (pVar 1) (m2 gIx (mCIL gMin (mVar 5)) (mC (.int 1))))) (mExp (mApp 3 (pVar 3) (mC .none))))))
def b_law_later_first : Fs := mSeq (mSet 1 (xOf (mLc (.s) (iSq (mVar 0)) [2] (tgN 2) (mYes) (m2 gIx (mVar 2) (mC (.int 2)))))) (mSeq (mSet 3 (xOf (mLst (mNil)))) (mSeq (mFor (iR1 (mCIL gMax (mLc (.s) (iSq (mVar 0)) [2] (tgN 2) (mYes) (m2 gIx (mVar 2) (mC (.int 1)))))) (tgN 4) l1_law_later_first) (mRet (xOf (mCall (m_law_pieces) (mCons (mVar 3) (mNil)))))))
def m_law_later_first : Fun1 := runF 9 b_law_later_first
def l1_law_moments : Fs := mSet 5 (xOf (m2 gAdd (mVar 5) (mLst (mCons (mTup (mCons (mVar 6) (mCons (mVar 7) (mNil)))) (mCons (mTup (mCons (m2 gSub (mVar 6) (mC (.int 1))) (mCons (mVar 7) (mNil)))) (mCons (mTup (mCons (mVar 6) (mCons (m2 gAdd (mVar 7) (mC (.int 1))) (mNil)))) (mCons (mTup (mCons (m2 gAdd (mVar 6) (mC (.int 1))) (mCons (mVar 7) (mNil)))) (mCons (mTup (mCons (mVar 6) (mCons (m2 gSub (mVar 7) (mC (.int 1))) (mNil)))) (mNil)))))))))
def l2_law_moments : Fs := mFor (iSq (mSl (mVar 4) (oSo (mC (.int 0))) (oSo (mC (.int 5))))) (tgN 7) l1_law_moments
def b_law_moments : Fs := mSeq (mSetF 2 (xOf (mLc (.s) (iSq (mVar 0)) [3] (tgN 3) (mYes) (m2 gIx (mVar 3) (mC (.int 0)))))) (mSeq (mSetF 4 (xOf (mLc (.s) (iSq (mVar 0)) [3] (tgN 3) (mYes) (m2 gIx (mVar 3) (mC (.int 1)))))) (mSeq (mSet 5 (xOf (mLst (mCons (mTup (mCons (mC (.int 0)) (mCons (mCIL gMax (mVar 4)) (mNil)))) (mCons (mTup (mCons (m1 gNeg (mC (.int 1))) (mCons (mCIL gMax (mVar 4)) (mNil)))) (mCons (mTup (mCons (mC (.int 5)) (mCons (mC (.int 5)) (mNil)))) (mCons (mTup (mCons (mC (.int 7)) (mCons (mC (.int 3)) (mNil)))) (mCons (mTup (mCons (m2 gMod (m2 gIx (mVar 1) (mC (.int 4))) (mC (.int 30))) (mCons (m2 gMod (m2 gIx (mVar 1) (mC (.int 5))) (mC (.int 40))) (mNil)))) (mNil))))))))) (mSeq (mFor (iSq (mSl (mVar 2) (oSo (mC (.int 0))) (oSo (mC (.int 5))))) (tgN 6) l2_law_moments) (mRet (xOf (mVar 5))))))
def m_law_moments : Fun1 := runF 8 b_law_moments
def l1_law_told_moments : Fs := mSeq (mSetF 5 (xOf (mLc (.s) (iR1 (mCS gLen (mCons (mVar 0) (mNil)))) [6] (tgN 6) (mAnd (mTv (m2 (g2S gEq) (m2 gIx (m2 gIx (mVar 0) (mVar 6)) (mC (.int 1))) (mVar 4))) (mTv (m2 gGt (m2 gIx (mVar 1) (mVar 6)) (mC (.int 0))))) (mVar 6)))) (mSeq (mIfS (mTv (m2 gGt (mCS gLen (mCons (mVar 5) (mNil))) (mC (.int 0)))) (mFrz 3 (mRet (xOf (mTup (mCons (mVar 3) (mCons (mVar 4) (mNil))))))) (mSkip)) (mSeq (mSetF 7 (xOf (mCLL gSort (mLc (.s) (iR1 (mCS gLen (mCons (mVar 0) (mNil)))) [6] (tgN 6) (mAnd (mTv (m2 gLe (m2 gIx (m2 gIx (mVar 0) (mVar 6)) (mC (.int 0))) (mVar 4))) (mTv (m2 gGt (m2 gIx (mVar 1) (mVar 6)) (mC (.int 0))))) (mTup (mCons (m2 gIx (m2 gIx (mVar 0) (mVar 6)) (mC (.int 1))) (mCons (mVar 6) (mNil)))))))) (mIfS (mTv (m2 gGt (mCS gLen (mCons (mVar 7) (mNil))) (mC (.int 0)))) (mSeq (mExp (mApp 3 (pVar 3) (m2 gIx (m2 gIx (mVar 7) (mC (.int 0))) (mC (.int 1))))) (mPut 1 (m2 gSub (m2 gIx (mVar 1) (m2 gIx (m2 gIx (mVar 7) (mC (.int 0))) (mC (.int 1)))) (mC (.int 1))) (pVar 1) (m2 gIx (m2 gIx (mVar 7) (mC (.int 0))) (mC (.int 1))))) (mExp (mApp 3 (pVar 3) (mC .none))))))
def b_law_told_moments : Fs := mSeq (mSet 1 (xOf (mLc (.s) (iSq (mVar 0)) [2] (tgN 2) (mYes) (m2 gIx (mVar 2) (mC (.int 2)))))) (mSeq (mSet 3 (xOf (mLst (mNil)))) (mSeq (mFor (iR1 (m2 gAdd (mCIL gMax (mLc (.s) (iSq (mVar 0)) [2] (tgN 2) (mYes) (m2 gIx (mVar 2) (mC (.int 1))))) (mC (.int 1)))) (tgN 4) l1_law_told_moments) (mFrz 3 (mRet (xOf (mTup (mCons (mVar 3) (mCons (mC .none) (mNil)))))))))
def m_law_told_moments : Fun1 := runF 8 b_law_told_moments
def l1_law_verdict : Fs := mIfS (mAnd (mTv (m2 (g2S gEq) (mVar 3) (m2 gSub (mVar 2) (mVar 4)))) (mAnd (mTv (mNotN (m2 gIx (mVar 1) (m2 gSub (mVar 3) (mC (.int 1)))))) (mTv (m2 gLe (m2 gIx (m2 gIx (mVar 0) (m2 gIx (mVar 1) (m2 gSub (mVar 3) (mC (.int 1))))) (mC (.int 1))) (mVar 2))))) (mSet 3 (xOf (m2 gSub (mVar 3) (mC (.int 1))))) (mSkip)
def b_law_verdict : Fs := mSeq (mSetT (mCall (m_law_told_moments) (mCons (mVar 0) (mNil))) (tgT [1, 2])) (mSeq (mIfS (mTv (mIsN (mVar 2))) (mRet (xOf (mTup (mCons (mC (.str "plan")) (mCons (mCall (m_law_pieces) (mCons (mVar 1) (mNil))) (mNil)))))) (mSkip)) (mSeq (mSetF 3 (xOf (mVar 2))) (mSeq (mFor (iR1 (mVar 2)) (tgN 4) l1_law_verdict) (mRet (xOf (mTup (mCons (mC (.str "full")) (mCons (mVar 3) (mCons (mVar 2) (mNil))))))))))
def m_law_verdict : Fun1 := runF 5 b_law_verdict
def b_is_piece : Fs := mSeq (mSetT (mVar 1) (tgT [2, 3, 4])) (mSeq (mIfS (mOr (mNot (mTv (m3 gLe gLt (mC (.int 0)) (mVar 2) (mCS gLen (mCons (mVar 0) (mNil)))))) (mTv (m2 gGe (mVar 3) (mVar 4)))) (mRet (xOf (mC (.bool false)))) (mSkip)) (mRet (xOf (mAndV (m2 gLe (m2 gIx (m2 gIx (mVar 0) (mVar 2)) (mC (.int 0))) (mVar 3)) (m2 gLe (mVar 4) (m2 gIx (m2 gIx (mVar 0) (mVar 2)) (mC (.int 1))))))))
def m_is_piece : Fun1 := runF 5 b_is_piece
def l1_is_plan : Fs := mPut 4 (m2 gSub (m2 gAdd (m2 gIx (mVar 4) (mVar 6)) (mVar 8)) (mVar 7)) (pVar 4) (mVar 6)
def b_is_plan : Fs := mSeq (mIfS (mNot (mTr (mCS gAll (mCons (mLc (.s) (iSq (mVar 1)) [2] (tgN 2) (mYes) (mCall (m_is_piece) (mCons (mVar 0) (mCons (mVar 2) (mNil))))) (mNil))))) (mRet (xOf (mC (.bool false)))) (mSkip)) (mSeq (mIfS (mTr (mCS gAny (mCons (mLc (.s) (iR2 (mC (.int 1)) (mCS gLen (mCons (mVar 1) (mNil)))) [3] (tgN 3) (mYes) (m2 gLt (m2 gIx (m2 gIx (mVar 1) (mVar 3)) (mC (.int 1))) (m2 gIx (m2 gIx (mVar 1) (m2 gSub (mVar 3) (mC (.int 1)))) (mC (.int 2))))) (mNil)))) (mRet (xOf (mC (.bool false)))) (mSkip)) (mSeq (mSet 4 (xOf (mLc (.s) (iSq (mVar 0)) [5] (tgN 5) (mYes) (mC (.int 0))))) (mSeq (mFor (iSq (mVar 1)) (tgT [6, 7, 8]) l1_is_plan) (mRet (xOf (mCS gAll (mCons (mLc (.s) (iR1 (mCS gLen (mCons (mVar 0) (mNil)))) [3] (tgN 3) (mYes) (m2 (g2S gEq) (m2 gIx (mVar 4) (mVar 3)) (m2 gIx (m2 gIx (mVar 0) (mVar 3)) (mC (.int 2))))) (mNil))))))))
def m_is_plan : Fun1 := runF 9 b_is_plan
def b_judge_dated : Fs := mSeq (mIfS (mAnd (mTv (m2 (g2S gEq) (mCS gLen (mCons (mVar 1) (mNil))) (mC (.int 2)))) (mTv (m2 (g2S gEq) (m2 gIx (mVar 1) (mC (.int 0))) (mC (.str "plan"))))) (mRet (xOf (mCall (m_is_plan) (mCons (mVar 0) (mCons (m2 gIx (mVar 1) (mC (.int 1))) (mNil)))))) (mSkip)) (mSeq (mIfS (mAnd (mTv (m2 (g2S gEq) (mCS gLen (mCons (mVar 1) (mNil))) (mC (.int 3)))) (mTv (m2 (g2S gEq) (m2 gIx (mVar 1) (mC (.int 0))) (mC (.str "full"))))) (mSeq (mSetT (mVar 1) (tgT [2, 3, 4])) (mSeq (mSet 5 (xOf (mCS gSum (mCons (mLc (.s) (iSq (mVar 0)) [6, 7, 8] (tgT [6, 7, 8]) (mAnd (mTv (m2 gGe (mVar 6) (mVar 3))) (mTv (m2 gLe (mVar 7) (mVar 4)))) (mVar 8)) (mNil))))) (mRet (xOf (mAndV (m3 gLe gLt (mC (.int 0)) (mVar 3) (mVar 4)) (m2 gGt (mVar 5) (m2 gSub (mVar 4) (mVar 3)))))))) (mSkip)) (mRet (xOf (mC (.bool false)))))
def m_judge_dated : Fun1 := runF 9 b_judge_dated
def l1_law : Fs := mSeq (mSetF 14 (xOf (mVar 13))) (mSeq (mIfS (mAnd (mTv (m2 gGt (mCS gLen (mCons (mVar 13) (mNil))) (mC (.int 1)))) (mTr (mIsi "list" (m2 gIx (mVar 13) (mC (.int 1)))))) (mSetF 14 (xOf (m2 gAdd (mTup (mCons (m2 gIx (mVar 13) (mC (.int 0))) (mCons (mCL some (m2 gIx (mVar 13) (mC (.int 1)))) (mNil)))) (mSl (mVar 13) (oSo (mC (.int 2))) (oNo))))) (mSkip)) (mSeq (mSet 15 (xOf (mCall (m_judge_dated) (mCons (mVar 7) (mCons (mVar 14) (mNil)))))) (mSeq (mIfS (mOr (mNot (mTr (mIsi "bool" (mVar 15)))) (mOr (mTv (m2 (g2S gNe) (mVar 15) (mCall (m_law_accepts) (mCons (mVar 7) (mCons (mVar 13) (mNil)))))) (mOr (mTv (m2 (g2S gNe) (mVar 14) (mVar 13))) (mTv (m2 (g2S gNe) (mVar 7) (mVar 12)))))) (mRet (xOf (mC (.bool false)))) (mSkip)) (mIfS (mTr (mVar 15)) (mExp (mApp 11 (pVar 11) (m2 gIx (mVar 13) (mC (.int 0))))) (mSkip)))))
def l2_law : Fs := mSeq (mSet 11 (xOf (mLst (mNil)))) (mSeq (mSetF 12 (xOf (mCL some (mVar 7)))) (mSeq (mFor (iSq (m2 gAdd (mVar 6) (mLst (mCons (mCall (m_law_verdict) (mCons (mVar 7) (mNil))) (mNil))))) (tgN 13) l1_law) (mIfS (mOr (mTv (m2 (g2S gEq) (mCS gLen (mCons (mVar 11) (mNil))) (mC (.int 0)))) (mTv (m2 gGt (mCS gLen (mCons (mLc (.s) (iSq (mVar 11)) [16] (tgN 16) (mTv (m2 (g2S gNe) (mVar 16) (m2 gIx (mVar 11) (mC (.int 0))))) (mVar 16)) (mNil))) (mC (.int 0))))) (mRet (xOf (mC (.bool false)))) (mSkip))))
def l3_law : Fs := mExp (mApp 6 (pVar 6) (mTup (mCons (mC (.str "full")) (mCons (mVar 9) (mCons (mVar 10) (mNil))))))
def l4_law : Fs := mExp (mApp 6 (pVar 6) (mTup (mCons (mC (.str "plan")) (mCons (mVar 8) (mNil)))))
def l5_law : Fs := mFor (iSq (mCall (m_law_bent) (mCons (mVar 7) (mCons (mVar 3) (mCons (mCS gLen (mCons (mVar 1) (mNil))) (mNil)))))) (tgN 8) l4_law
def b_law : Fs := mSeq (mSetF 1 (xOf (mCall (m_law_dated) (mCons (mVar 0) (mCons (mC (.int 1)) (mCons (mC (.int 8)) (mNil))))))) (mSeq (mSetF 2 (xOf (mCall (m_law_dated) (mCons (mVar 0) (mCons (mC (.int 12)) (mCons (mC (.int 8)) (mNil))))))) (mSeq (mSetF 3 (xOf (mCall (m_law_numbers) (mCons (mCall (m_law_cell) (mCons (mVar 0) (mCons (mC (.int 0)) (mNil)))) (mCons (mC (.int 6)) (mCons (mC (.int 5040)) (mNil))))))) (mSeq (mSetF 4 (xOf (mCall (m_law_verdict) (mCons (mVar 1) (mNil))))) (mSeq (mSetF 5 (xOf (mCall (m_law_pieces) (mCons (m2 gIx (mCall (m_law_told_moments) (mCons (mVar 1) (mNil))) (mC (.int 0))) (mNil))))) (mSeq (mSet 6 (xOf (mLst (mCons (mVar 4) (mCons (mTup (mCons (mC (.str "plan")) (mCons (mVar 5) (mNil)))) (mCons (mTup (mCons (mC (.str "full")) (mCons (mC (.int 0)) (mNil)))) (mCons (mTup (mCons (mC (.str "plan")) (mCons (mVar 5) (mCons (mC (.int 0)) (mNil))))) (mCons (mTup (mCons (mC (.str "plans")) (mCons (mVar 5) (mNil)))) (mCons (mTup (mNil)) (mCons (mTup (mCons (mC (.str "plan")) (mNil))) (mCons (mTup (mCons (mC (.str "fuller")) (mCons (mC (.int 0)) (mCons (mC (.int 1)) (mNil))))) (mNil)))))))))))) (mSeq (mFor (iSq (mLst (mCons (mVar 5) (mCons (mCall (m_law_later_first) (mCons (mVar 1) (mNil))) (mNil))))) (tgN 7) l5_law) (mSeq (mFor (iSq (mCall (m_law_moments) (mCons (mVar 1) (mCons (mVar 3) (mNil))))) (tgT [9, 10]) l3_law) (mSeq (mFor (iSq (mLst (mCons (mVar 1) (mCons (mVar 2) (mNil))))) (tgN 7) l2_law) (mRet (xOf (mC (.bool true))))))))))))
def m_law : Fun1 := runF 17 b_law
end K56

set_option Elab.async false
set_option linter.all false
set_option maxRecDepth 100000
namespace K56
open PySem PySem.Spec L2 M
section
variable {P : Program} {w : World} {K : PySem.W.Frag} {mg : Str → Option Value} {base : Heap}
theorem ok_law_accepts (T : Txt K mg) : Fn P w K mg base 1 "_law_accepts" 2 m_law_accepts := by
  obtain ⟨f, fd, F, hm, hb⟩ := T.f_law_accepts.ex
  exact fn_ok (k := 0) F sc_law_accepts hm hb fun cdv A outer s H E hr => by
    have hu := hu_of' hr
    exact mss_cons (ms_if ((mw_and (mt_eq hu (me_len T.b_len (ma_cons (mv 1) (ma_nil))) (me_int)) (mw_and1 (mt_eq hu (me_ix (mv 1) (me_int) (fun _ _ => rfl)) (me_str)))).mt) (mss_cons (ms_setF (i := 2) sc_law_accepts.nd rfl (Or.inr rfl) (mx_of (me_ix (mv 1) (me_int) (fun _ _ => rfl)))) (mss_cons (ms_setF (i := 3) sc_law_accepts.nd rfl (Or.inr rfl) (mx_of (me_ix (mv 1) (me_int) (fun _ _ => rfl)))) (mss_one (ms_ret (mx_of (me_and (me_ge (mv 2) (me_int)) (me_and (me_lt (mv 2) (mv 3)) (me_one (me_gt (me_sum T.b_sum rfl (ma_cons (me_lc (own := [("note", 4)]) rfl sc_law_accepts.nd (mi_seq (mv 0)) (blkOk_by (own := [("note", 4)]) (N := n_law_accepts) (sc := defScope s_law_accepts) (by decide +kernel)) (fun _ _ _ _ _ => mg_name (i := 4) sc_law_accepts.nd rfl (Or.inl rfl)) (fun _ _ _ _ _ => mts_one ((mw_and (mt_ge (me_ix (mv 4) (me_int) (fun _ _ => rfl)) (mv 2)) (mw_and1 (mt_le (me_ix (mv 4) (me_int) (fun _ _ => rfl)) (mv 3)))).mt)) (fun _ _ _ _ _ => me_ix (mv 4) (me_int) (fun _ _ => rfl)) (fun _ h => h)) (ma_nil))) (me_sub (mv 3) (mv 2))))))))))) (mss_nil)) (mss_cons (ms_if ((mw_or (mt_ne hu (me_len T.b_len (ma_cons (mv 1) (ma_nil))) (me_int)) (mw_or1 (mt_ne hu (me_ix (mv 1) (me_int) (fun _ _ => rfl)) (me_str)))).mt) (mss_one (ms_ret (mx_of (me_bl)))) (mss_nil)) (mss_cons (ms_setLc (i := 5) (own := [("note", 4)]) rfl sc_law_accepts.nd rfl rfl (sw_true rfl rfl rfl (by decide +kernel)) (mi_seq (mv 0)) (blkOk_by (own := [("note", 4)]) (N := n_law_accepts) (sc := defScope s_law_accepts) (by decide +kernel)) (fun _ _ _ _ _ => mg_name (i := 4) sc_law_accepts.nd rfl (Or.inl rfl)) (fun _ _ _ _ _ => mts_nil) (fun _ _ _ _ _ => me_int) (fun _ h => h)) (mss_cons (ms_set (i := 6) sc_law_accepts.nd rfl (Or.inl rfl) (mx_of (me_int))) (mss_cons (ms_for PassesOwn.never rfl (mi_seq (me_ix (mv 1) (me_int) (fun _ _ => rfl))) (mg_tup rfl (mgs_cons (i := 7) sc_law_accepts.nd rfl (Or.inl rfl) (mgs_cons (i := 8) sc_law_accepts.nd rfl (Or.inl rfl) (mgs_cons (i := 9) sc_law_accepts.nd rfl (Or.inl rfl) (mgs_nil))))) (mss_cons (ms_if ((mw_or (mt_lt (mv 7) (me_int)) (mw_or (mt_ge (mv 7) (me_len T.b_len (ma_cons (mv 0) (ma_nil)))) (mw_or (mt_ge (mv 8) (mv 9)) (mw_or1 (mt_lt (mv 8) (mv 6)))))).mt) (mss_one (ms_ret (mx_of (me_bl)))) (mss_nil)) (mss_cons (ms_if ((mw_or (mt_lt (mv 8) (me_ix (me_ix (mv 0) (mv 7) (fun _ _ => rfl)) (me_int) (fun _ _ => rfl))) (mw_or1 (mt_gt (mv 9) (me_ix (me_ix (mv 0) (mv 7) (fun _ _ => rfl)) (me_int) (fun _ _ => rfl))))).mt) (mss_one (ms_ret (mx_of (me_bl)))) (mss_nil)) (mss_cons (ms_setF (i := 6) sc_law_accepts.nd rfl (Or.inl rfl) (mx_of (mv 9))) (mss_one (ms_put (me_sub (me_add (me_ix (mv 5) (mv 7) (fun _ _ => rfl)) (mv 9)) (mv 8)) (mp_var 5) (mv 7) (fun ha hb => pg_sub ha hb set_list))))))) (mss_one (ms_ret (mx_of (me_eq hu (mv 5) (me_lc (own := [("note", 4)]) rfl sc_law_accepts.nd (mi_seq (mv 0)) (blkOk_by (own := [("note", 4)]) (N := n_law_accepts) (sc := defScope s_law_accepts) (by decide +kernel)) (fun _ _ _ _ _ => mg_name (i := 4) sc_law_accepts.nd rfl (Or.inl rfl)) (fun _ _ _ _ _ => mts_nil) (fun _ _ _ _ _ => me_ix (mv 4) (me_int) (fun _ _ => rfl)) (fun _ h => h))))))))))
theorem ok_law_bent (T : Txt K mg) : Fn P w K mg base 1 "_law_bent" 3 m_law_bent := by
  obtain ⟨f, fd, F, hm, hb⟩ := T.f_law_bent.ex
  exact fn_ok (k := 0) F sc_law_bent hm hb fun cdv A outer s H E hr => by
    have hu := hu_of' hr
    exact mss_cons (ms_set (i := 3) sc_law_bent.nd rfl (Or.inl rfl) (mx_of (me_lst (ma_cons (mv 0) (ma_cons (me_revL (mv 0)) (ma_cons (me_add (mv 0) (me_sl (mv 0) (mo_some (me_int)) (mo_some (me_int)))) (ma_cons (me_lst (ma_nil) len_nil) (ma_cons (me_sl (mv 0) (mo_some (me_int)) (mo_none)) (ma_cons (me_sl (mv 0) (mo_some (me_int)) (mo_some (me_sub (me_len T.b_len (ma_cons (mv 0) (ma_nil))) (me_int)))) (ma_nil))))))) (len_cons (len_cons (len_cons (len_cons (len_cons (len_cons len_nil))))))))) (mss_cons (ms_if (mt_eq hu (me_len T.b_len (ma_cons (mv 0) (ma_nil))) (me_int)) (mss_one (ms_ret (mx_of (mv 3)))) (mss_nil)) (mss_cons (ms_set (i := 4) sc_law_bent.nd rfl (Or.inl rfl) (mx_of (me_mod (me_ix (mv 1) (me_int) (fun _ _ => rfl)) (me_len T.b_len (ma_cons (mv 0) (ma_nil)))))) (mss_cons (ms_asgT (me_ix (mv 0) (mv 4) (fun _ _ => rfl)) (mg_tup rfl (mgs_cons (i := 5) sc_law_bent.nd rfl (Or.inl rfl) (mgs_cons (i := 6) sc_law_bent.nd rfl (Or.inl rfl) (mgs_cons (i := 7) sc_law_bent.nd rfl (Or.inl rfl) (mgs_nil)))))) (mss_cons (ms_set (i := 8) sc_law_bent.nd rfl (Or.inl rfl) (mx_of (me_add (mv 6) (me_mod (me_ix (mv 1) (me_int) (fun _ _ => rfl)) (me_add (me_sub (mv 7) (mv 6)) (me_int)))))) (mss_cons (ms_setF (i := 9) sc_law_bent.nd rfl (Or.inl rfl) (mx_of (me_lst (ma_cons (me_lst (ma_cons (me_tup (ma_cons (mv 5) (ma_cons (mv 6) (ma_cons (mv 8) (ma_nil)))) (len_cons (len_cons (len_cons len_nil)))) (ma_cons (me_tup (ma_cons (mv 5) (ma_cons (mv 8) (ma_cons (mv 7) (ma_nil)))) (len_cons (len_cons (len_cons len_nil)))) (ma_nil))) (len_cons (len_cons len_nil))) (ma_cons (me_lst (ma_cons (me_tup (ma_cons (mv 5) (ma_cons (me_add (mv 6) (me_int)) (ma_cons (me_add (mv 7) (me_int)) (ma_nil)))) (len_cons (len_cons (len_cons len_nil)))) (ma_nil)) (len_cons len_nil)) (ma_cons (me_lst (ma_cons (me_tup (ma_cons (mv 5) (ma_cons (me_sub (mv 6) (me_int)) (ma_cons (me_sub (mv 7) (me_int)) (ma_nil)))) (len_cons (len_cons (len_cons len_nil)))) (ma_nil)) (len_cons len_nil)) (ma_nil)))) (len_cons (len_cons (len_cons len_nil)))))) (mss_cons (ms_setF (i := 9) sc_law_bent.nd rfl (Or.inl rfl) (mx_of (me_add (mv 9) (me_lst (ma_cons (me_lst (ma_cons (me_tup (ma_cons (mv 5) (ma_cons (mv 6) (ma_cons (me_add (mv 7) (me_int)) (ma_nil)))) (len_cons (len_cons (len_cons len_nil)))) (ma_nil)) (len_cons len_nil)) (ma_cons (me_lst (ma_cons (me_tup (ma_cons (mv 5) (ma_cons (me_add (mv 6) (me_int)) (ma_cons (mv 7) (ma_nil)))) (len_cons (len_cons (len_cons len_nil)))) (ma_nil)) (len_cons len_nil)) (ma_cons (me_lst (ma_cons (me_tup (ma_cons (mv 5) (ma_cons (mv 6) (ma_cons (me_sub (mv 7) (me_int)) (ma_nil)))) (len_cons (len_cons (len_cons len_nil)))) (ma_nil)) (len_cons len_nil)) (ma_cons (me_lst (ma_cons (me_tup (ma_cons (mv 5) (ma_cons (me_sub (mv 6) (me_int)) (ma_cons (mv 7) (ma_nil)))) (len_cons (len_cons (len_cons len_nil)))) (ma_nil)) (len_cons len_nil)) (ma_nil))))) (len_cons (len_cons (len_cons (len_cons len_nil)))))))) (mss_cons (ms_setF (i := 9) sc_law_bent.nd rfl (Or.inl rfl) (mx_of (me_add (mv 9) (me_lst (ma_cons (me_lst (ma_cons (me_tup (ma_cons (me_mod (me_ix (mv 1) (me_int) (fun _ _ => rfl)) (mv 2)) (ma_cons (mv 6) (ma_cons (mv 7) (ma_nil)))) (len_cons (len_cons (len_cons len_nil)))) (ma_nil)) (len_cons len_nil)) (ma_cons (me_lst (ma_cons (me_tup (ma_cons (mv 2) (ma_cons (mv 6) (ma_cons (mv 7) (ma_nil)))) (len_cons (len_cons (len_cons len_nil)))) (ma_nil)) (len_cons len_nil)) (ma_cons (me_lst (ma_cons (me_tup (ma_cons (me_sub (mv 5) (mv 2)) (ma_cons (mv 6) (ma_cons (mv 7) (ma_nil)))) (len_cons (len_cons (len_cons len_nil)))) (ma_nil)) (len_cons len_nil)) (ma_cons (me_lst (ma_nil) len_nil) (ma_nil))))) (len_cons (len_cons (len_cons (len_cons len_nil)))))))) (mss_cons (ms_setF (i := 9) sc_law_bent.nd rfl (Or.inl rfl) (mx_of (me_add (mv 9) (me_lst (ma_cons (me_lst (ma_cons (me_tup (ma_cons (mv 5) (ma_cons (mv 7) (ma_cons (mv 6) (ma_nil)))) (len_cons (len_cons (len_cons len_nil)))) (ma_nil)) (len_cons len_nil)) (ma_cons (me_lst (ma_cons (me_tup (ma_cons (mv 5) (ma_cons (mv 6) (ma_cons (mv 6) (ma_nil)))) (len_cons (len_cons (len_cons len_nil)))) (ma_nil)) (len_cons len_nil)) (ma_cons (me_lst (ma_cons (me_tup (ma_cons (mv 5) (ma_cons (mv 8) (ma_cons (mv 7) (ma_nil)))) (len_cons (len_cons (len_cons len_nil)))) (ma_cons (me_tup (ma_cons (mv 5) (ma_cons (mv 6) (ma_cons (mv 8) (ma_nil)))) (len_cons (len_cons (len_cons len_nil)))) (ma_nil))) (len_cons (len_cons len_nil))) (ma_nil)))) (len_cons (len_cons (len_cons len_nil))))))) (mss_cons (ms_setF (i := 9) sc_law_bent.nd rfl (Or.inl rfl) (mx_of (me_add (mv 9) (me_lst (ma_cons (me_lst (ma_cons (me_tup (ma_cons (mv 5) (ma_cons (mv 6) (ma_cons (mv 7) (ma_nil)))) (len_cons (len_cons (len_cons len_nil)))) (ma_cons (me_tup (ma_cons (mv 5) (ma_cons (mv 7) (ma_cons (mv 6) (ma_nil)))) (len_cons (len_cons (len_cons len_nil)))) (ma_nil))) (len_cons (len_cons len_nil))) (ma_cons (me_lst (ma_cons (me_tup (ma_cons (me_neg (me_int)) (ma_cons (mv 6) (ma_cons (mv 7) (ma_nil)))) (len_cons (len_cons (len_cons len_nil)))) (ma_nil)) (len_cons len_nil)) (ma_nil))) (len_cons (len_cons len_nil)))))) (mss_cons (ms_for PassesOwn.never rfl (mi_seq (mv 9)) (mg_name (i := 10) sc_law_bent.nd rfl (Or.inl rfl)) (mss_one (ms_expr (mx_append (mp_var 3) (me_add (me_add (me_sl (mv 0) (mo_some (me_int)) (mo_some (mv 4))) (mv 10)) (me_sl (mv 0) (mo_some (me_add (mv 4) (me_int))) (mo_none))))))) (mss_cons (ms_set (i := 11) sc_law_bent.nd rfl (Or.inl rfl) (mx_of (me_mod (me_ix (mv 1) (me_int) (fun _ _ => rfl)) (me_len T.b_len (ma_cons (mv 0) (ma_nil)))))) (mss_cons (ms_set (i := 12) sc_law_bent.nd rfl (Or.inl rfl) (mx_of (me_list T.b_list (mv 0)))) (mss_cons (ms_put (me_tup (ma_cons (me_ix (me_ix (mv 0) (mv 11) (fun _ _ => rfl)) (me_int) (fun _ _ => rfl)) (ma_cons (mv 6) (ma_cons (mv 7) (ma_nil)))) (len_cons (len_cons (len_cons len_nil)))) (mp_var 12) (mv 4) (fun ha hb => pg_sub ha hb set_list)) (mss_cons (ms_put (me_tup (ma_cons (mv 5) (ma_cons (me_ix (me_ix (mv 0) (mv 11) (fun _ _ => rfl)) (me_int) (fun _ _ => rfl)) (ma_cons (me_ix (me_ix (mv 0) (mv 11) (fun _ _ => rfl)) (me_int) (fun _ _ => rfl)) (ma_nil)))) (len_cons (len_cons (len_cons len_nil)))) (mp_var 12) (mv 11) (fun ha hb => pg_sub ha hb set_list)) (mss_one (ms_frz (i := 12) (ms_ret (mx_of (me_add (mv 3) (me_lst (ma_cons (mv 12) (ma_nil)) (len_cons len_nil)))))))))))))))))))))
theorem ok_law_cell (T : Txt K mg) : Fn P w K mg base 1 "_law_cell" 2 m_law_cell := by
  obtain ⟨f, fd, F, hm, hb⟩ := T.f_law_cell.ex
  exact fn_ok (k := 0) F sc_law_cell hm hb fun cdv A outer s H E hr => by
    have hu := hu_of' hr
    exact mss_cons (ms_if (mt_lt (mv 1) (me_len T.b_len (ma_cons (mv 0) (ma_nil)))) (mss_one (ms_ret (mx_of (me_int' T.b_int (ma_cons (me_ix (mv 0) (mv 1) (fun _ _ => rfl)) (ma_nil)))))) (mss_nil)) (mss_one (ms_ret (mx_of (me_int))))
theorem ok_law_numbers (T : Txt K mg) : Fn P w K mg base 1 "_law_numbers" 3 m_law_numbers := by
  obtain ⟨f, fd, F, hm, hb⟩ := T.f_law_numbers.ex
  exact fn_ok (k := 0) F sc_law_numbers hm hb fun cdv A outer s H E hr => by
    have hu := hu_of' hr
    exact mss_cons (ms_set (i := 3) sc_law_numbers.nd rfl (Or.inl rfl) (mx_of (me_mod (me_int' T.b_int (ma_cons (mv 0) (ma_nil))) (me_int)))) (mss_cons (ms_set (i := 4) sc_law_numbers.nd rfl (Or.inl rfl) (mx_of (me_int))) (mss_cons (ms_if (mt_ge (mv 0) (me_pow (me_int) (me_int))) (mss_one (ms_set (i := 4) sc_law_numbers.nd rfl (Or.inl rfl) (mx_of (me_int' T.b_int (ma_cons (mv 0) (ma_nil)))))) (mss_nil)) (mss_cons (ms_set (i := 5) sc_law_numbers.nd rfl (Or.inl rfl) (mx_of (me_lst (ma_nil) len_nil))) (mss_cons (ms_for PassesOwn.never rfl (mi_r1 rfl T.b_range (mv 1)) (mg_name (i := 6) sc_law_numbers.nd rfl (Or.inl rfl)) (mss_one (ms_if (mt_gt (mv 4) (me_int)) (mss_cons (ms_expr (mx_append (mp_var 5) (me_mod (me_int' T.b_int (ma_cons (mv 4) (ma_nil))) (mv 2)))) (mss_one (ms_set (i := 4) sc_law_numbers.nd rfl (Or.inl rfl) (mx_of (me_div (me_int' T.b_int (ma_cons (mv 4) (ma_nil))) (mv 2)))))) (mss_cons (ms_set (i := 7) sc_law_numbers.nd rfl (Or.inl rfl) (mx_of (me_mod (me_int' T.b_int (ma_cons (me_add (me_add (me_mul (mv 3) (me_int)) (me_mul (mv 6) (me_int))) (me_int)) (ma_nil))) (me_int)))) (mss_cons (ms_set (i := 7) sc_law_numbers.nd rfl (Or.inl rfl) (mx_of (me_mod (me_int' T.b_int (ma_cons (me_add (me_add (me_add (me_mul (mv 7) (mv 7)) (me_mul (mv 7) (me_int))) (me_mul (mv 6) (me_int))) (me_int)) (ma_nil))) (me_int)))) (mss_one (ms_expr (mx_append (mp_var 5) (me_mod (me_int' T.b_int (ma_cons (me_div (mv 7) (me_int)) (ma_nil))) (mv 2)))))))))) (mss_one (ms_ret (mx_of (mv 5))))))))
theorem ok_law_dated (T : Txt K mg) : Fn P w K mg base 2 "_law_dated" 3 m_law_dated := by
  obtain ⟨f, fd, F, hm, hb⟩ := T.f_law_dated.ex
  exact fn_ok (k := 1) F sc_law_dated hm hb fun cdv A outer s H E hr => by
    have hu := hu_of' hr
    exact mss_cons (ms_setF (i := 3) sc_law_dated.nd rfl (Or.inl rfl) (mx_of (me_call ((ok_law_numbers T).mono (by decide : 1 ≤ 1)) (hr.mono (by omega)) (ma_cons (me_call ((ok_law_cell T).mono (by decide : 1 ≤ 1)) (hr.mono (by omega)) (ma_cons (mv 0) (ma_cons (mv 1) (ma_nil))) (len_cons (len_cons len_nil))) (ma_cons (me_int) (ma_cons (me_int) (ma_nil)))) (len_cons (len_cons (len_cons len_nil)))))) (mss_cons (ms_set (i := 4) sc_law_dated.nd rfl (Or.inl rfl) (mx_of (me_lst (ma_nil) len_nil))) (mss_cons (ms_for PassesOwn.never rfl (mi_r1 rfl T.b_range (me_add (me_int) (me_mod (me_ix (mv 3) (me_int) (fun _ _ => rfl)) (mv 2)))) (mg_name (i := 5) sc_law_dated.nd rfl (Or.inl rfl)) (mss_cons (ms_setF (i := 6) sc_law_dated.nd rfl (Or.inl rfl) (mx_of (me_call ((ok_law_numbers T).mono (by decide : 1 ≤ 1)) (hr.mono (by omega)) (ma_cons (me_add (me_call ((ok_law_cell T).mono (by decide : 1 ≤ 1)) (hr.mono (by omega)) (ma_cons (mv 0) (ma_cons (me_add (me_add (mv 1) (me_int)) (mv 5)) (ma_nil))) (len_cons (len_cons len_nil))) (me_mul (me_int) (mv 5))) (ma_cons (me_int) (ma_cons (me_int) (ma_nil)))) (len_cons (len_cons (len_cons len_nil)))))) (mss_cons (ms_set (i := 7) sc_law_dated.nd rfl (Or.inl rfl) (mx_of (me_mod (me_ix (mv 6) (me_int) (fun _ _ => rfl)) (me_ix (me_lst (ma_cons (me_int) (ma_cons (me_int) (ma_cons (me_int) (ma_nil)))) (len_cons (len_cons (len_cons len_nil)))) (me_mod (me_ix (mv 3) (me_int) (fun _ _ => rfl)) (me_int)) (fun _ _ => rfl))))) (mss_cons (ms_set (i := 8) sc_law_dated.nd rfl (Or.inl rfl) (mx_of (me_add (me_int) (me_mod (me_ix (mv 6) (me_int) (fun _ _ => rfl)) (me_ix (me_lst (ma_cons (me_int) (ma_cons (me_int) (ma_cons (me_int) (ma_nil)))) (len_cons (len_cons (len_cons len_nil)))) (me_mod (me_ix (mv 3) (me_int) (fun _ _ => rfl)) (me_int)) (fun _ _ => rfl)))))) (mss_cons (ms_set (i := 9) sc_law_dated.nd rfl (Or.inl rfl) (mx_of (me_add (mv 8) (me_mod (me_ix (mv 6) (me_int) (fun _ _ => rfl)) (me_ix (me_lst (ma_cons (me_int) (ma_cons (me_int) (ma_cons (me_int) (ma_nil)))) (len_cons (len_cons (len_cons len_nil)))) (me_mod (me_ix (mv 3) (me_int) (fun _ _ => rfl)) (me_int)) (fun _ _ => rfl)))))) (mss_cons (ms_if (mt_eq hu (me_mod (me_ix (mv 6) (me_int) (fun _ _ => rfl)) (me_int)) (me_int)) (mss_one (ms_set (i := 9) sc_law_dated.nd rfl (Or.inl rfl) (mx_of (me_add (me_int) (me_mod (me_ix (mv 6) (me_int) (fun _ _ => rfl)) (mv 8)))))) (mss_nil)) (mss_one (ms_expr (mx_append (mp_var 4) (me_tup (ma_cons (mv 7) (ma_cons (me_add (mv 7) (mv 9)) (ma_cons (mv 8) (ma_nil)))) (len_cons (len_cons (len_cons len_nil))))))))))))) (mss_one (ms_ret (mx_of (mv 4))))))
theorem ok_law_pieces (T : Txt K mg) : Fn P w K mg base 1 "_law_pieces" 1 m_law_pieces := by
  obtain ⟨f, fd, F, hm, hb⟩ := T.f_law_pieces.ex
  exact fn_ok (k := 0) F sc_law_pieces hm hb fun cdv A outer s H E hr => by
    have hu := hu_of' hr
    exact mss_cons (ms_set (i := 1) sc_law_pieces.nd rfl (Or.inl rfl) (mx_of (me_lst (ma_nil) len_nil))) (mss_cons (ms_for PassesOwn.never rfl (mi_r1 rfl T.b_range (me_len T.b_len (ma_cons (mv 0) (ma_nil)))) (mg_name (i := 2) sc_law_pieces.nd rfl (Or.inl rfl)) (mss_one (ms_if (mt_notN (me_ix (mv 0) (mv 2) (fun _ _ => rfl))) (mss_cons (ms_setF (i := 3) sc_law_pieces.nd rfl (Or.inl rfl) (mx_of (me_tup (ma_cons (me_non) (ma_cons (me_int) (ma_cons (me_int) (ma_nil)))) (len_cons (len_cons (len_cons len_nil)))))) (mss_cons (ms_if (mt_gt (me_len T.b_len (ma_cons (mv 1) (ma_nil))) (me_int)) (mss_one (ms_setF (i := 3) sc_law_pieces.nd rfl (Or.inl rfl) (mx_of (me_ix (mv 1) (me_sub (me_len T.b_len (ma_cons (mv 1) (ma_nil))) (me_int)) (fun _ _ => rfl))))) (mss_nil)) (mss_one (ms_if ((mw_and (mt_eq hu (me_ix (mv 3) (me_int) (fun _ _ => rfl)) (me_ix (mv 0) (mv 2) (fun _ _ => rfl))) (mw_and1 (mt_eq hu (me_ix (mv 3) (me_int) (fun _ _ => rfl)) (mv 2)))).mt) (mss_one (ms_put (me_tup (ma_cons (me_ix (mv 3) (me_int) (fun _ _ => rfl)) (ma_cons (me_ix (mv 3) (me_int) (fun _ _ => rfl)) (ma_cons (me_add (mv 2) (me_int)) (ma_nil)))) (len_cons (len_cons (len_cons len_nil)))) (mp_var 1) (me_sub (me_len T.b_len (ma_cons (mv 1) (ma_nil))) (me_int)) (fun ha hb => pg_sub ha hb set_list))) (mss_one (ms_expr (mx_append (mp_var 1) (me_tup (ma_cons (me_ix (mv 0) (mv 2) (fun _ _ => rfl)) (ma_cons (mv 2) (ma_cons (me_add (mv 2) (me_int)) (ma_nil)))) (len_cons (len_cons (len_cons len_nil))))))))))) (mss_nil)))) (mss_one (ms_ret (mx_of (mv 1)))))
theorem ok_law_later_first (T : Txt K mg) : Fn P w K mg base 2 "_law_later_first" 1 m_law_later_first := by
  obtain ⟨f, fd, F, hm, hb⟩ := T.f_law_later_first.ex
  exact fn_ok (k := 1) F sc_law_later_first hm hb fun cdv A outer s H E hr => by
    have hu := hu_of' hr
    exact mss_cons (ms_set (i := 1) sc_law_later_first.nd rfl (Or.inr rfl) (mx_of (me_lc (own := [("note", 2)]) rfl sc_law_later_first.nd (mi_seq (mv 0)) (blkOk_by (own := [("note", 2)]) (N := n_law_later_first) (sc := defScope s_law_later_first) (by decide +kernel)) (fun _ _ _ _ _ => mg_name (i := 2) sc_law_later_first.nd rfl (Or.inl rfl)) (fun _ _ _ _ _ => mts_nil) (fun _ _ _ _ _ => me_ix (mv 2) (me_int) (fun _ _ => rfl)) (fun _ h => h)))) (mss_cons (ms_set (i := 3) sc_law_later_first.nd rfl (Or.inl rfl) (mx_of (me_lst (ma_nil) len_nil))) (mss_cons (ms_for PassesOwn.never rfl (mi_r1 rfl T.b_range (me_max T.b_max rfl hu (me_lc (own := [("note", 2)]) rfl sc_law_later_first.nd (mi_seq (mv 0)) (blkOk_by (own := [("note", 2)]) (N := n_law_later_first) (sc := defScope s_law_later_first) (by decide +kernel)) (fun _ _ _ _ _ => mg_name (i := 2) sc_law_later_first.nd rfl (Or.inl rfl)) (fun _ _ _ _ _ => mts_nil) (fun _ _ _ _ _ => me_ix (mv 2) (me_int) (fun _ _ => rfl)) (fun _ h => h)))) (mg_name (i := 4) sc_law_later_first.nd rfl (Or.inr rfl)) (mss_cons (ms_setLcF (i := 5) (own := [("k", 6)]) rfl sc_law_later_first.nd rfl rfl (sw_true rfl rfl rfl (by decide +kernel)) (mi_r1 rfl T.b_range (me_len T.b_len (ma_cons (mv 0) (ma_nil)))) (blkOk_by (own := [("k", 6)]) (N := n_law_later_first) (sc := defScope s_law_later_first) (by decide +kernel)) (fun _ _ _ _ _ => mg_name (i := 6) sc_law_later_first.nd rfl (Or.inl rfl)) (fun _ _ _ _ _ => mts_one ((mw_and (mt_le (me_ix (me_ix (mv 0) (mv 6) (fun _ _ => rfl)) (me_int) (fun _ _ => rfl)) (mv 4)) (mw_and (mt_lt (mv 4) (me_ix (me_ix (mv 0) (mv 6) (fun _ _ => rfl)) (me_int) (fun _ _ => rfl))) (mw_and1 (mt_gt (me_ix (mv 1) (mv 6) (fun _ _ => rfl)) (me_int))))).mt)) (fun _ _ _ _ _ => me_tup (ma_cons (me_sub (me_int) (me_ix (me_ix (mv 0) (mv 6) (fun _ _ => rfl)) (me_int) (fun _ _ => rfl))) (ma_cons (mv 6) (ma_nil))) (len_cons (len_cons len_nil))) (fun _ h => h)) (mss_cons (ms_setLcF (i := 7) (own := [("pair", 8)]) rfl sc_law_later_first.nd rfl rfl (sw_true rfl rfl rfl (by decide +kernel)) (mi_seq (mv 5)) (blkOk_by (own := [("pair", 8)]) (N := n_law_later_first) (sc := defScope s_law_later_first) (by decide +kernel)) (fun _ _ _ _ _ => mg_name (i := 8) sc_law_later_first.nd rfl (Or.inl rfl)) (fun _ _ _ _ _ => mts_one (mt_eq hu (me_ix (mv 1) (me_ix (mv 8) (me_int) (fun _ _ => rfl)) (fun _ _ => rfl)) (me_sub (me_ix (me_ix (mv 0) (me_ix (mv 8) (me_int) (fun _ _ => rfl)) (fun _ _ => rfl)) (me_int) (fun _ _ => rfl)) (mv 4)))) (fun _ _ _ _ _ => mv 8) (fun _ h => h)) (mss_cons (ms_if (mt_gt (me_len T.b_len (ma_cons (mv 7) (ma_nil))) (me_int)) (mss_one (ms_setF (i := 5) sc_law_later_first.nd rfl (Or.inl rfl) (mx_of (mv 7)))) (mss_nil)) (mss_one (ms_if (mt_gt (me_len T.b_len (ma_cons (mv 5) (ma_nil))) (me_int)) (mss_cons (ms_expr (mx_append (mp_var 3) (me_ix (me_min T.b_min rfl hu (mv 5)) (me_int) (fun _ _ => rfl)))) (mss_one (ms_put (me_sub (me_ix (mv 1) (me_ix (me_min T.b_min rfl hu (mv 5)) (me_int) (fun _ _ => rfl)) (fun _ _ => rfl)) (me_int)) (mp_var 1) (me_ix (me_min T.b_min rfl hu (mv 5)) (me_int) (fun _ _ => rfl)) (fun ha hb => pg_sub ha hb set_list)))) (mss_one (ms_expr (mx_append (mp_var 3) (me_non)))))))))) (mss_one (ms_ret (mx_of (me_call ((ok_law_pieces T).mono (by decide : 1 ≤ 1)) (hr.mono (by omega)) (ma_cons (mv 3) (ma_nil)) (len_cons len_nil)))))))
theorem ok_law_moments (T : Txt K mg) : Fn P w K mg base 1 "_law_moments" 2 m_law_moments := by
  obtain ⟨f, fd, F, hm, hb⟩ := T.f_law_moments.ex
  exact fn_ok (k := 0) F sc_law_moments hm hb fun cdv A outer s H E hr => by
    have hu := hu_of' hr
    exact mss_cons (ms_setLcF (i := 2) (own := [("note", 3)]) rfl sc_law_moments.nd rfl rfl (sw_true rfl rfl rfl (by decide +kernel)) (mi_seq (mv 0)) (blkOk_by (own := [("note", 3)]) (N := n_law_moments) (sc := defScope s_law_moments) (by decide +kernel)) (fun _ _ _ _ _ => mg_name (i := 3) sc_law_moments.nd rfl (Or.inl rfl)) (fun _ _ _ _ _ => mts_nil) (fun _ _ _ _ _ => me_ix (mv 3) (me_int) (fun _ _ => rfl)) (fun _ h => h)) (mss_cons (ms_setLcF (i := 4) (own := [("note", 3)]) rfl sc_law_moments.nd rfl rfl (sw_true rfl rfl rfl (by decide +kernel)) (mi_seq (mv 0)) (blkOk_by (own := [("note", 3)]) (N := n_law_moments) (sc := defScope s_law_moments) (by decide +kernel)) (fun _ _ _ _ _ => mg_name (i := 3) sc_law_moments.nd rfl (Or.inl rfl)) (fun _ _ _ _ _ => mts_nil) (fun _ _ _ _ _ => me_ix (mv 3) (me_int) (fun _ _ => rfl)) (fun _ h => h)) (mss_cons (ms_set (i := 5) sc_law_moments.nd rfl (Or.inl rfl) (mx_of (me_lst (ma_cons (me_tup (ma_cons (me_int) (ma_cons (me_max T.b_max rfl hu (mv 4)) (ma_nil))) (len_cons (len_cons len_nil))) (ma_cons (me_tup (ma_cons (me_neg (me_int)) (ma_cons (me_max T.b_max rfl hu (mv 4)) (ma_nil))) (len_cons (len_cons len_nil))) (ma_cons (me_tup (ma_cons (me_int) (ma_cons (me_int) (ma_nil))) (len_cons (len_cons len_nil))) (ma_cons (me_tup (ma_cons (me_int) (ma_cons (me_int) (ma_nil))) (len_cons (len_cons len_nil))) (ma_cons (me_tup (ma_cons (me_mod (me_ix (mv 1) (me_int) (fun _ _ => rfl)) (me_int)) (ma_cons (me_mod (me_ix (mv 1) (me_int) (fun _ _ => rfl)) (me_int)) (ma_nil))) (len_cons (len_cons len_nil))) (ma_nil)))))) (len_cons (len_cons (len_cons (len_cons (len_cons len_nil)))))))) (mss_cons (ms_for PassesOwn.never rfl (mi_seq (me_sl (mv 2) (mo_some (me_int)) (mo_some (me_int)))) (mg_name (i := 6) sc_law_moments.nd rfl (Or.inl rfl)) (mss_one (ms_for PassesOwn.never rfl (mi_seq (me_sl (mv 4) (mo_some (me_int)) (mo_some (me_int)))) (mg_name (i := 7) sc_law_moments.nd rfl (Or.inl rfl)) (mss_one (ms_set (i := 5) sc_law_moments.nd rfl (Or.inl rfl) (mx_of (me_add (mv 5) (me_lst (ma_cons (me_tup (ma_cons (mv 6) (ma_cons (mv 7) (ma_nil))) (len_cons (len_cons len_nil))) (ma_cons (me_tup (ma_cons (me_sub (mv 6) (me_int)) (ma_cons (mv 7) (ma_nil))) (len_cons (len_cons len_nil))) (ma_cons (me_tup (ma_cons (mv 6) (ma_cons (me_add (mv 7) (me_int)) (ma_nil))) (len_cons (len_cons len_nil))) (ma_cons (me_tup (ma_cons (me_add (mv 6) (me_int)) (ma_cons (mv 7) (ma_nil))) (len_cons (len_cons len_nil))) (ma_cons (me_tup (ma_cons (mv 6) (ma_cons (me_sub (mv 7) (me_int)) (ma_nil))) (len_cons (len_cons len_nil))) (ma_nil)))))) (len_cons (len_cons (len_cons (len_cons (len_cons len_nil))))))))))))) (mss_one (ms_ret (mx_of (mv 5)))))))
theorem ok_law_told_moments (T : Txt K mg) : Fn P w K mg base 1 "_law_told_moments" 1 m_law_told_moments := by
  obtain ⟨f, fd, F, hm, hb⟩ := T.f_law_told_moments.ex
  exact fn_ok (k := 0) F sc_law_told_moments hm hb fun cdv A outer s H E hr => by
    have hu := hu_of' hr
    exact mss_cons (ms_set (i := 1) sc_law_told_moments.nd rfl (Or.inr rfl) (mx_of (me_lc (own := [("note", 2)]) rfl sc_law_told_moments.nd (mi_seq (mv 0)) (blkOk_by (own := [("note", 2)]) (N := n_law_told_moments) (sc := defScope s_law_told_moments) (by decide +kernel)) (fun _ _ _ _ _ => mg_name (i := 2) sc_law_told_moments.nd rfl (Or.inl rfl)) (fun _ _ _ _ _ => mts_nil) (fun _ _ _ _ _ => me_ix (mv 2) (me_int) (fun _ _ => rfl)) (fun _ h => h)))) (mss_cons (ms_set (i := 3) sc_law_told_moments.nd rfl (Or.inl rfl) (mx_of (me_lst (ma_nil) len_nil))) (mss_cons (ms_for PassesOwn.never rfl (mi_r1 rfl T.b_range (me_add (me_max T.b_max rfl hu (me_lc (own := [("note", 2)]) rfl sc_law_told_moments.nd (mi_seq (mv 0)) (blkOk_by (own := [("note", 2)]) (N := n_law_told_moments) (sc := defScope s_law_told_moments) (by decide +kernel)) (fun _ _ _ _ _ => mg_name (i := 2) sc_law_told_moments.nd rfl (Or.inl rfl)) (fun _ _ _ _ _ => mts_nil) (fun _ _ _ _ _ => me_ix (mv 2) (me_int) (fun _ _ => rfl)) (fun _ h => h))) (me_int))) (mg_name (i := 4) sc_law_told_moments.nd rfl (Or.inr rfl)) (mss_cons (ms_setLcF (i := 5) (own := [("k", 6)]) rfl sc_law_told_moments.nd rfl rfl (sw_true rfl rfl rfl (by decide +kernel)) (mi_r1 rfl T.b_range (me_len T.b_len (ma_cons (mv 0) (ma_nil)))) (blkOk_by (own := [("k", 6)]) (N := n_law_told_moments) (sc := defScope s_law_told_moments) (by decide +kernel)) (fun _ _ _ _ _ => mg_name (i := 6) sc_law_told_moments.nd rfl (Or.inl rfl)) (fun _ _ _ _ _ => mts_one ((mw_and (mt_eq hu (me_ix (me_ix (mv 0) (mv 6) (fun _ _ => rfl)) (me_int) (fun _ _ => rfl)) (mv 4)) (mw_and1 (mt_gt (me_ix (mv 1) (mv 6) (fun _ _ => rfl)) (me_int)))).mt)) (fun _ _ _ _ _ => mv 6) (fun _ h => h)) (mss_cons (ms_if (mt_gt (me_len T.b_len (ma_cons (mv 5) (ma_nil))) (me_int)) (mss_one (ms_frz (i := 3) (ms_ret (mx_of (me_tup (ma_cons (mv 3) (ma_cons (mv 4) (ma_nil))) (len_cons (len_cons len_nil))))))) (mss_nil)) (mss_cons (ms_setF (i := 7) sc_law_told_moments.nd rfl (Or.inl rfl) (mx_of (me_sorted T.b_sorted hu (me_lc (own := [("k", 6)]) rfl sc_law_told_moments.nd (mi_r1 rfl T.b_range (me_len T.b_len (ma_cons (mv 0) (ma_nil)))) (blkOk_by (own := [("k", 6)]) (N := n_law_told_moments) (sc := defScope s_law_told_moments) (by decide +kernel)) (fun _ _ _ _ _ => mg_name (i := 6) sc_law_told_moments.nd rfl (Or.inl rfl)) (fun _ _ _ _ _ => mts_one ((mw_and (mt_le (me_ix (me_ix (mv 0) (mv 6) (fun _ _ => rfl)) (me_int) (fun _ _ => rfl)) (mv 4)) (mw_and1 (mt_gt (me_ix (mv 1) (mv 6) (fun _ _ => rfl)) (me_int)))).mt)) (fun _ _ _ _ _ => me_tup (ma_cons (me_ix (me_ix (mv 0) (mv 6) (fun _ _ => rfl)) (me_int) (fun _ _ => rfl)) (ma_cons (mv 6) (ma_nil))) (len_cons (len_cons len_nil))) (fun _ h => h))))) (mss_one (ms_if (mt_gt (me_len T.b_len (ma_cons (mv 7) (ma_nil))) (me_int)) (mss_cons (ms_expr (mx_append (mp_var 3) (me_ix (me_ix (mv 7) (me_int) (fun _ _ => rfl)) (me_int) (fun _ _ => rfl)))) (mss_one (ms_put (me_sub (me_ix (mv 1) (me_ix (me_ix (mv 7) (me_int) (fun _ _ => rfl)) (me_int) (fun _ _ => rfl)) (fun _ _ => rfl)) (me_int)) (mp_var 1) (me_ix (me_ix (mv 7) (me_int) (fun _ _ => rfl)) (me_int) (fun _ _ => rfl)) (fun ha hb => pg_sub ha hb set_list)))) (mss_one (ms_expr (mx_append (mp_var 3) (me_non)))))))))) (mss_one (ms_frz (i := 3) (ms_ret (mx_of (me_tup (ma_cons (mv 3) (ma_cons (me_non) (ma_nil))) (len_cons (len_cons len_nil)))))))))
theorem ok_law_verdict (T : Txt K mg) : Fn P w K mg base 2 "_law_verdict" 1 m_law_verdict := by
  obtain ⟨f, fd, F, hm, hb⟩ := T.f_law_verdict.ex
  exact fn_ok (k := 1) F sc_law_verdict hm hb fun cdv A outer s H E hr => by
    have hu := hu_of' hr
    exact mss_cons (ms_asgT (me_call ((ok_law_told_moments T).mono (by decide : 1 ≤ 1)) (hr.mono (by omega)) (ma_cons (mv 0) (ma_nil)) (len_cons len_nil)) (mg_tup rfl (mgs_cons (i := 1) sc_law_verdict.nd rfl (Or.inl rfl) (mgs_cons (i := 2) sc_law_verdict.nd rfl (Or.inl rfl) (mgs_nil))))) (mss_cons (ms_if (mt_isN (mv 2)) (mss_one (ms_ret (mx_of (me_tup (ma_cons (me_str) (ma_cons (me_call ((ok_law_pieces T).mono (by decide : 1 ≤ 1)) (hr.mono (by omega)) (ma_cons (mv 1) (ma_nil)) (len_cons len_nil)) (ma_nil))) (len_cons (len_cons len_nil)))))) (mss_nil)) (mss_cons (ms_setF (i := 3) sc_law_verdict.nd rfl (Or.inl rfl) (mx_of (mv 2))) (mss_cons (ms_for PassesOwn.never rfl (mi_r1 rfl T.b_range (mv 2)) (mg_name (i := 4) sc_law_verdict.nd rfl (Or.inl rfl)) (mss_one (ms_if ((mw_and (mt_eq hu (mv 3) (me_sub (mv 2) (mv 4))) (mw_and (mt_notN (me_ix (mv 1) (me_sub (mv 3) (me_int)) (fun _ _ => rfl))) (mw_and1 (mt_le (me_ix (me_ix (mv 0) (me_ix (mv 1) (me_sub (mv 3) (me_int)) (fun _ _ => rfl)) (fun _ _ => rfl)) (me_int) (fun _ _ => rfl)) (mv 2))))).mt) (mss_one (ms_set (i := 3) sc_law_verdict.nd rfl (Or.inl rfl) (mx_of (me_sub (mv 3) (me_int))))) (mss_nil)))) (mss_one (ms_ret (mx_of (me_tup (ma_cons (me_str) (ma_cons (mv 3) (ma_cons (mv 2) (ma_nil)))) (len_cons (len_cons (len_cons len_nil))))))))))
theorem ok_is_piece (T : Txt K mg) : Fn P w K mg base 1 "is_piece" 2 m_is_piece := by
  obtain ⟨f, fd, F, hm, hb⟩ := T.f_is_piece.ex
  exact fn_ok (k := 0) F sc_is_piece hm hb fun cdv A outer s H E hr => by
    have hu := hu_of' hr
    exact mss_cons (ms_asgT (mv 1) (mg_tup rfl (mgs_cons (i := 2) sc_is_piece.nd rfl (Or.inl rfl) (mgs_cons (i := 3) sc_is_piece.nd rfl (Or.inl rfl) (mgs_cons (i := 4) sc_is_piece.nd rfl (Or.inl rfl) (mgs_nil)))))) (mss_cons (ms_if ((mw_or (mt_not (mt_chain op_le op_lt o2_le o2_lt (me_int) (mv 2) (me_len T.b_len (ma_cons (mv 0) (ma_nil))))) (mw_or1 (mt_ge (mv 3) (mv 4)))).mt) (mss_one (ms_ret (mx_of (me_bl)))) (mss_nil)) (mss_one (ms_ret (mx_of (me_and (me_le (me_ix (me_ix (mv 0) (mv 2) (fun _ _ => rfl)) (me_int) (fun _ _ => rfl)) (mv 3)) (me_one (me_le (mv 4) (me_ix (me_ix (mv 0) (mv 2) (fun _ _ => rfl)) (me_int) (fun _ _ => rfl)))))))))
theorem ok_is_plan (T : Txt K mg) : Fn P w K mg base 2 "is_plan" 2 m_is_plan := by
  obtain ⟨f, fd, F, hm, hb⟩ := T.f_is_plan.ex
  exact fn_ok (k := 1) F sc_is_plan hm hb fun cdv A outer s H E hr => by
    have hu := hu_of' hr
    exact mss_cons (ms_if (mt_not (mt_truth (me_all T.b_all rfl (ma_cons (me_lc (own := [("piece", 2)]) rfl sc_is_plan.nd (mi_seq (mv 1)) (blkOk_by (own := [("piece", 2)]) (N := n_is_plan) (sc := defScope s_is_plan) (by decide +kernel)) (fun _ _ _ _ _ => mg_name (i := 2) sc_is_plan.nd rfl (Or.inl rfl)) (fun _ _ _ _ _ => mts_nil) (fun _ _ _ _ _ => me_call ((ok_is_piece T).mono (by decide : 1 ≤ 1)) (hr.mono (by omega)) (ma_cons (mv 0) (ma_cons (mv 2) (ma_nil))) (len_cons (len_cons len_nil))) (fun _ h => h)) (ma_nil))))) (mss_one (ms_ret (mx_of (me_bl)))) (mss_nil)) (mss_cons (ms_if (mt_truth (me_any T.b_any rfl (ma_cons (me_lc (own := [("k", 3)]) rfl sc_is_plan.nd (mi_r2 rfl T.b_range (me_int) (me_len T.b_len (ma_cons (mv 1) (ma_nil)))) (blkOk_by (own := [("k", 3)]) (N := n_is_plan) (sc := defScope s_is_plan) (by decide +kernel)) (fun _ _ _ _ _ => mg_name (i := 3) sc_is_plan.nd rfl (Or.inl rfl)) (fun _ _ _ _ _ => mts_nil) (fun _ _ _ _ _ => me_lt (me_ix (me_ix (mv 1) (mv 3) (fun _ _ => rfl)) (me_int) (fun _ _ => rfl)) (me_ix (me_ix (mv 1) (me_sub (mv 3) (me_int)) (fun _ _ => rfl)) (me_int) (fun _ _ => rfl))) (fun _ h => h)) (ma_nil)))) (mss_one (ms_ret (mx_of (me_bl)))) (mss_nil)) (mss_cons (ms_set (i := 4) sc_is_plan.nd rfl (Or.inr rfl) (mx_of (me_lc (own := [("note", 5)]) rfl sc_is_plan.nd (mi_seq (mv 0)) (blkOk_by (own := [("note", 5)]) (N := n_is_plan) (sc := defScope s_is_plan) (by decide +kernel)) (fun _ _ _ _ _ => mg_name (i := 5) sc_is_plan.nd rfl (Or.inl rfl)) (fun _ _ _ _ _ => mts_nil) (fun _ _ _ _ _ => me_int) (fun _ h => h)))) (mss_cons (ms_for PassesOwn.never rfl (mi_seq (mv 1)) (mg_tup rfl (mgs_cons (i := 6) sc_is_plan.nd rfl (Or.inl rfl) (mgs_cons (i := 7) sc_is_plan.nd rfl (Or.inl rfl) (mgs_cons (i := 8) sc_is_plan.nd rfl (Or.inl rfl) (mgs_nil))))) (mss_one (ms_put (me_sub (me_add (me_ix (mv 4) (mv 6) (fun _ _ => rfl)) (mv 8)) (mv 7)) (mp_var 4) (mv 6) (fun ha hb => pg_sub ha hb set_list)))) (mss_one (ms_ret (mx_of (me_all T.b_all rfl (ma_cons (me_lc (own := [("k", 3)]) rfl sc_is_plan.nd (mi_r1 rfl T.b_range (me_len T.b_len (ma_cons (mv 0) (ma_nil)))) (blkOk_by (own := [("k", 3)]) (N := n_is_plan) (sc := defScope s_is_plan) (by decide +kernel)) (fun _ _ _ _ _ => mg_name (i := 3) sc_is_plan.nd rfl (Or.inl rfl)) (fun _ _ _ _ _ => mts_nil) (fun _ _ _ _ _ => me_eq hu (me_ix (mv 4) (mv 3) (fun _ _ => rfl)) (me_ix (me_ix (mv 0) (mv 3) (fun _ _ => rfl)) (me_int) (fun _ _ => rfl))) (fun _ h => h)) (ma_nil)))))))))
theorem ok_judge_dated (T : Txt K mg) : Fn P w K mg base 3 "judge_dated" 2 m_judge_dated := by
  obtain ⟨f, fd, F, hm, hb⟩ := T.f_judge_dated.ex
  exact fn_ok (k := 2) F sc_judge_dated hm hb fun cdv A outer s H E hr => by
    have hu := hu_of' hr
    exact mss_cons (ms_if ((mw_and (mt_eq hu (me_len T.b_len (ma_cons (mv 1) (ma_nil))) (me_int)) (mw_and1 (mt_eq hu (me_ix (mv 1) (me_int) (fun _ _ => rfl)) (me_str)))).mt) (mss_one (ms_ret (mx_of (me_call ((ok_is_plan T).mono (by decide : 2 ≤ 2)) (hr.mono (by omega)) (ma_cons (mv 0) (ma_cons (me_ix (mv 1) (me_int) (fun _ _ => rfl)) (ma_nil))) (len_cons (len_cons len_nil)))))) (mss_nil)) (mss_cons (ms_if ((mw_and (mt_eq hu (me_len T.b_len (ma_cons (mv 1) (ma_nil))) (me_int)) (mw_and1 (mt_eq hu (me_ix (mv 1) (me_int) (fun _ _ => rfl)) (me_str)))).mt) (mss_cons (ms_asgT (mv 1) (mg_tup rfl (mgs_cons (i := 2) sc_judge_dated.nd rfl (Or.inl rfl) (mgs_cons (i := 3) sc_judge_dated.nd rfl (Or.inr rfl) (mgs_cons (i := 4) sc_judge_dated.nd rfl (Or.inr rfl) (mgs_nil)))))) (mss_cons (ms_set (i := 5) sc_judge_dated.nd rfl (Or.inl rfl) (mx_of (me_sum T.b_sum rfl (ma_cons (me_lc (own := [("at", 6), ("due", 7), ("beats", 8)]) rfl sc_judge_dated.nd (mi_seq (mv 0)) (blkOk_by (own := [("at", 6), ("due", 7), ("beats", 8)]) (N := n_judge_dated) (sc := defScope s_judge_dated) (by decide +kernel)) (fun _ _ _ _ _ => mg_tup rfl (mgs_cons (i := 6) sc_judge_dated.nd rfl (Or.inl rfl) (mgs_cons (i := 7) sc_judge_dated.nd rfl (Or.inl rfl) (mgs_cons (i := 8) sc_judge_dated.nd rfl (Or.inl rfl) (mgs_nil))))) (fun _ _ _ _ _ => mts_one ((mw_and (mt_ge (mv 6) (mv 3)) (mw_and1 (mt_le (mv 7) (mv 4)))).mt)) (fun _ _ _ _ _ => mv 8) (fun _ h => h)) (ma_nil))))) (mss_one (ms_ret (mx_of (me_and (me_chain op_le op_lt o2_le o2_lt (me_int) (mv 3) (mv 4)) (me_one (me_gt (mv 5) (me_sub (mv 4) (mv 3)))))))))) (mss_nil)) (mss_one (ms_ret (mx_of (me_bl)))))
theorem okk_law {f : Addr} {fd : FuncData} (F : L2.Fun K "law" "law" s_law f fd) (T : Txt K mg) : FnOk P w K mg base CX0 4 f fd ["script"] (spM K 1 m_law) :=
  fnok_of (k := 3) F sc_law fun cdv A outer s H E hr => by
    have hu := hu_of' hr
    exact mss_cons (ms_setF (i := 1) sc_law.nd rfl (Or.inl rfl) (mx_of (me_call ((ok_law_dated T).mono (by decide : 2 ≤ 3)) (hr.mono (by omega)) (ma_cons (mv 0) (ma_cons (me_int) (ma_cons (me_int) (ma_nil)))) (len_cons (len_cons (len_cons len_nil)))))) (mss_cons (ms_setF (i := 2) sc_law.nd rfl (Or.inl rfl) (mx_of (me_call ((ok_law_dated T).mono (by decide : 2 ≤ 3)) (hr.mono (by omega)) (ma_cons (mv 0) (ma_cons (me_int) (ma_cons (me_int) (ma_nil)))) (len_cons (len_cons (len_cons len_nil)))))) (mss_cons (ms_setF (i := 3) sc_law.nd rfl (Or.inl rfl) (mx_of (me_call ((ok_law_numbers T).mono (by decide : 1 ≤ 3)) (hr.mono (by omega)) (ma_cons (me_call ((ok_law_cell T).mono (by decide : 1 ≤ 3)) (hr.mono (by omega)) (ma_cons (mv 0) (ma_cons (me_int) (ma_nil))) (len_cons (len_cons len_nil))) (ma_cons (me_int) (ma_cons (me_int) (ma_nil)))) (len_cons (len_cons (len_cons len_nil)))))) (mss_cons (ms_setF (i := 4) sc_law.nd rfl (Or.inl rfl) (mx_of (me_call ((ok_law_verdict T).mono (by decide : 2 ≤ 3)) (hr.mono (by omega)) (ma_cons (mv 1) (ma_nil)) (len_cons len_nil)))) (mss_cons (ms_setF (i := 5) sc_law.nd rfl (Or.inl rfl) (mx_of (me_call ((ok_law_pieces T).mono (by decide : 1 ≤ 3)) (hr.mono (by omega)) (ma_cons (me_ix (me_call ((ok_law_told_moments T).mono (by decide : 1 ≤ 3)) (hr.mono (by omega)) (ma_cons (mv 1) (ma_nil)) (len_cons len_nil)) (me_int) (fun _ _ => rfl)) (ma_nil)) (len_cons len_nil)))) (mss_cons (ms_set (i := 6) sc_law.nd rfl (Or.inl rfl) (mx_of (me_lst (ma_cons (mv 4) (ma_cons (me_tup (ma_cons (me_str) (ma_cons (mv 5) (ma_nil))) (len_cons (len_cons len_nil))) (ma_cons (me_tup (ma_cons (me_str) (ma_cons (me_int) (ma_nil))) (len_cons (len_cons len_nil))) (ma_cons (me_tup (ma_cons (me_str) (ma_cons (mv 5) (ma_cons (me_int) (ma_nil)))) (len_cons (len_cons (len_cons len_nil)))) (ma_cons (me_tup (ma_cons (me_str) (ma_cons (mv 5) (ma_nil))) (len_cons (len_cons len_nil))) (ma_cons (me_tup (ma_nil) len_nil) (ma_cons (me_tup (ma_cons (me_str) (ma_nil)) (len_cons len_nil)) (ma_cons (me_tup (ma_cons (me_str) (ma_cons (me_int) (ma_cons (me_int) (ma_nil)))) (len_cons (len_cons (len_cons len_nil)))) (ma_nil))))))))) (len_cons (len_cons (len_cons (len_cons (len_cons (len_cons (len_cons (len_cons len_nil))))))))))) (mss_cons (ms_for PassesOwn.never rfl (mi_seq (me_lst (ma_cons (mv 5) (ma_cons (me_call ((ok_law_later_first T).mono (by decide : 2 ≤ 3)) (hr.mono (by omega)) (ma_cons (mv 1) (ma_nil)) (len_cons len_nil)) (ma_nil))) (len_cons (len_cons len_nil)))) (mg_name (i := 7) sc_law.nd rfl (Or.inl rfl)) (mss_one (ms_for PassesOwn.never rfl (mi_seq (me_call ((ok_law_bent T).mono (by decide : 1 ≤ 3)) (hr.mono (by omega)) (ma_cons (mv 7) (ma_cons (mv 3) (ma_cons (me_len T.b_len (ma_cons (mv 1) (ma_nil))) (ma_nil)))) (len_cons (len_cons (len_cons len_nil))))) (mg_name (i := 8) sc_law.nd rfl (Or.inl rfl)) (mss_one (ms_expr (mx_append (mp_var 6) (me_tup (ma_cons (me_str) (ma_cons (mv 8) (ma_nil))) (len_cons (len_cons len_nil))))))))) (mss_cons (ms_for PassesOwn.never rfl (mi_seq (me_call ((ok_law_moments T).mono (by decide : 1 ≤ 3)) (hr.mono (by omega)) (ma_cons (mv 1) (ma_cons (mv 3) (ma_nil))) (len_cons (len_cons len_nil)))) (mg_tup rfl (mgs_cons (i := 9) sc_law.nd rfl (Or.inl rfl) (mgs_cons (i := 10) sc_law.nd rfl (Or.inl rfl) (mgs_nil)))) (mss_one (ms_expr (mx_append (mp_var 6) (me_tup (ma_cons (me_str) (ma_cons (mv 9) (ma_cons (mv 10) (ma_nil)))) (len_cons (len_cons (len_cons len_nil)))))))) (mss_cons (ms_for PassesOwn.never rfl (mi_seq (me_lst (ma_cons (mv 1) (ma_cons (mv 2) (ma_nil))) (len_cons (len_cons len_nil)))) (mg_name (i := 7) sc_law.nd rfl (Or.inl rfl)) (mss_cons (ms_set (i := 11) sc_law.nd rfl (Or.inr rfl) (mx_of (me_lst (ma_nil) len_nil))) (mss_cons (ms_setF (i := 12) sc_law.nd rfl (Or.inl rfl) (mx_of (me_list T.b_list (mv 7)))) (mss_cons (ms_for PassesOwn.never rfl (mi_seq (me_add (mv 6) (me_lst (ma_cons (me_call ((ok_law_verdict T).mono (by decide : 2 ≤ 3)) (hr.mono (by omega)) (ma_cons (mv 7) (ma_nil)) (len_cons len_nil)) (ma_nil)) (len_cons len_nil)))) (mg_name (i := 13) sc_law.nd rfl (Or.inl rfl)) (mss_cons (ms_setF (i := 14) sc_law.nd rfl (Or.inl rfl) (mx_of (mv 13))) (mss_cons (ms_if ((mw_and (mt_gt (me_len T.b_len (ma_cons (mv 13) (ma_nil))) (me_int)) (mw_and1 (mt_truth (me_isi T.b_isinstance T.b_list boot_t_list (me_ix (mv 13) (me_int) (fun _ _ => rfl)))))).mt) (mss_one (ms_setF (i := 14) sc_law.nd rfl (Or.inl rfl) (mx_of (me_add (me_tup (ma_cons (me_ix (mv 13) (me_int) (fun _ _ => rfl)) (ma_cons (me_list T.b_list (me_ix (mv 13) (me_int) (fun _ _ => rfl))) (ma_nil))) (len_cons (len_cons len_nil))) (me_sl (mv 13) (mo_some (me_int)) (mo_none)))))) (mss_nil)) (mss_cons (ms_set (i := 15) sc_law.nd rfl (Or.inl rfl) (mx_of (me_call ((ok_judge_dated T).mono (by decide : 3 ≤ 3)) (hr.mono (by omega)) (ma_cons (mv 7) (ma_cons (mv 14) (ma_nil))) (len_cons (len_cons len_nil))))) (mss_cons (ms_if ((mw_or (mt_not (mt_truth (me_isi T.b_isinstance T.b_bool boot_t_bool (mv 15)))) (mw_or (mt_ne hu (mv 15) (me_call ((ok_law_accepts T).mono (by decide : 1 ≤ 3)) (hr.mono (by omega)) (ma_cons (mv 7) (ma_cons (mv 13) (ma_nil))) (len_cons (len_cons len_nil)))) (mw_or (mt_ne hu (mv 14) (mv 13)) (mw_or1 (mt_ne hu (mv 7) (mv 12)))))).mt) (mss_one (ms_ret (mx_of (me_bl)))) (mss_nil)) (mss_one (ms_if (mt_truth (mv 15)) (mss_one (ms_expr (mx_append (mp_var 11) (me_ix (mv 13) (me_int) (fun _ _ => rfl))))) (mss_nil)))))))) (mss_one (ms_if ((mw_or (mt_eq hu (me_len T.b_len (ma_cons (mv 11) (ma_nil))) (me_int)) (mw_or1 (mt_gt (me_len T.b_len (ma_cons (me_lc (own := [("kind", 16)]) rfl sc_law.nd (mi_seq (mv 11)) (blkOk_by (own := [("kind", 16)]) (N := n_law) (sc := defScope s_law) (by decide +kernel)) (fun _ _ _ _ _ => mg_name (i := 16) sc_law.nd rfl (Or.inl rfl)) (fun _ _ _ _ _ => mts_one (mt_ne hu (mv 16) (me_ix (mv 11) (me_int) (fun _ _ => rfl)))) (fun _ _ _ _ _ => mv 16) (fun _ h => h)) (ma_nil))) (me_int)))).mt) (mss_one (ms_ret (mx_of (me_bl)))) (mss_nil))))))) (mss_one (ms_ret (mx_of (me_bl))))))))))))
end
section
variable {K : PySem.W.Frag} {mg : Str → Option Value} {h : Heap}
theorem fa_law_accepts (X : K.In h) (G : h.Ns mainGlobals mg) {f : Addr} {oc kV dc pm cd ct : Value} {od an : Option Addr} {sl : Array (Option Value)} (a : PySem.W.nsIn K mainGlobals "_law_accepts" = some (some (.ref f))) (l : K.lookup f = some ⟨oc, od, .func (PySem.W.fnOf "_law_accepts" "_law_accepts" (defArgs s_law_accepts) (defBody s_law_accepts) (defScope s_law_accepts) .none kV dc pm an cd ct), sl⟩) (c : PySem.W.codeIn K cd "_law_accepts" = true) (k : PySem.W.keepIn K (.ref f) = true) : FA K mg "_law_accepts" "_law_accepts" s_law_accepts ["notes", "verdict"] :=
  ⟨f, _, L2.fun_mk (st := s_law_accepts) l c k, PySem.W.mg_of X G a, (L2.fun_mk (st := s_law_accepts) l c k).binds (ps := ["notes", "verdict"]) fun _ _ _ _ _ _ us hl => match us, hl with | [_, _], _ => rfl⟩
theorem fa_law_bent (X : K.In h) (G : h.Ns mainGlobals mg) {f : Addr} {oc kV dc pm cd ct : Value} {od an : Option Addr} {sl : Array (Option Value)} (a : PySem.W.nsIn K mainGlobals "_law_bent" = some (some (.ref f))) (l : K.lookup f = some ⟨oc, od, .func (PySem.W.fnOf "_law_bent" "_law_bent" (defArgs s_law_bent) (defBody s_law_bent) (defScope s_law_bent) .none kV dc pm an cd ct), sl⟩) (c : PySem.W.codeIn K cd "_law_bent" = true) (k : PySem.W.keepIn K (.ref f) = true) : FA K mg "_law_bent" "_law_bent" s_law_bent ["pieces", "draws", "count"] :=
  ⟨f, _, L2.fun_mk (st := s_law_bent) l c k, PySem.W.mg_of X G a, (L2.fun_mk (st := s_law_bent) l c k).binds (ps := ["pieces", "draws", "count"]) fun _ _ _ _ _ _ us hl => match us, hl with | [_, _, _], _ => rfl⟩
theorem fa_law_cell (X : K.In h) (G : h.Ns mainGlobals mg) {f : Addr} {oc kV dc pm cd ct : Value} {od an : Option Addr} {sl : Array (Option Value)} (a : PySem.W.nsIn K mainGlobals "_law_cell" = some (some (.ref f))) (l : K.lookup f = some ⟨oc, od, .func (PySem.W.fnOf "_law_cell" "_law_cell" (defArgs s_law_cell) (defBody s_law_cell) (defScope s_law_cell) .none kV dc pm an cd ct), sl⟩) (c : PySem.W.codeIn K cd "_law_cell" = true) (k : PySem.W.keepIn K (.ref f) = true) : FA K mg "_law_cell" "_law_cell" s_law_cell ["script", "k"] :=
  ⟨f, _, L2.fun_mk (st := s_law_cell) l c k, PySem.W.mg_of X G a, (L2.fun_mk (st := s_law_cell) l c k).binds (ps := ["script", "k"]) fun _ _ _ _ _ _ us hl => match us, hl with | [_, _], _ => rfl⟩
theorem fa_law_numbers (X : K.In h) (G : h.Ns mainGlobals mg) {f : Addr} {oc kV dc pm cd ct : Value} {od an : Option Addr} {sl : Array (Option Value)} (a : PySem.W.nsIn K mainGlobals "_law_numbers" = some (some (.ref f))) (l : K.lookup f = some ⟨oc, od, .func (PySem.W.fnOf "_law_numbers" "_law_numbers" (defArgs s_law_numbers) (defBody s_law_numbers) (defScope s_law_numbers) .none kV dc pm an cd ct), sl⟩) (c : PySem.W.codeIn K cd "_law_numbers" = true) (k : PySem.W.keepIn K (.ref f) = true) : FA K mg "_law_numbers" "_law_numbers" s_law_numbers ["cell", "count", "limit"] :=
  ⟨f, _, L2.fun_mk (st := s_law_numbers) l c k, PySem.W.mg_of X G a, (L2.fun_mk (st := s_law_numbers) l c k).binds (ps := ["cell", "count", "limit"]) fun _ _ _ _ _ _ us hl => match us, hl with | [_, _, _], _ => rfl⟩
theorem fa_law_dated (X : K.In h) (G : h.Ns mainGlobals mg) {f : Addr} {oc kV dc pm cd ct : Value} {od an : Option Addr} {sl : Array (Option Value)} (a : PySem.W.nsIn K mainGlobals "_law_dated" = some (some (.ref f))) (l : K.lookup f = some ⟨oc, od, .func (PySem.W.fnOf "_law_dated" "_law_dated" (defArgs s_law_dated) (defBody s_law_dated) (defScope s_law_dated) .none kV dc pm an cd ct), sl⟩) (c : PySem.W.codeIn K cd "_law_dated" = true) (k : PySem.W.keepIn K (.ref f) = true) : FA K mg "_law_dated" "_law_dated" s_law_dated ["script", "at", "most"] :=
  ⟨f, _, L2.fun_mk (st := s_law_dated) l c k, PySem.W.mg_of X G a, (L2.fun_mk (st := s_law_dated) l c k).binds (ps := ["script", "at", "most"]) fun _ _ _ _ _ _ us hl => match us, hl with | [_, _, _], _ => rfl⟩
theorem fa_law_pieces (X : K.In h) (G : h.Ns mainGlobals mg) {f : Addr} {oc kV dc pm cd ct : Value} {od an : Option Addr} {sl : Array (Option Value)} (a : PySem.W.nsIn K mainGlobals "_law_pieces" = some (some (.ref f))) (l : K.lookup f = some ⟨oc, od, .func (PySem.W.fnOf "_law_pieces" "_law_pieces" (defArgs s_law_pieces) (defBody s_law_pieces) (defScope s_law_pieces) .none kV dc pm an cd ct), sl⟩) (c : PySem.W.codeIn K cd "_law_pieces" = true) (k : PySem.W.keepIn K (.ref f) = true) : FA K mg "_law_pieces" "_law_pieces" s_law_pieces ["told"] :=
  ⟨f, _, L2.fun_mk (st := s_law_pieces) l c k, PySem.W.mg_of X G a, (L2.fun_mk (st := s_law_pieces) l c k).binds (ps := ["told"]) fun _ _ _ _ _ _ us hl => match us, hl with | [_], _ => rfl⟩
theorem fa_law_later_first (X : K.In h) (G : h.Ns mainGlobals mg) {f : Addr} {oc kV dc pm cd ct : Value} {od an : Option Addr} {sl : Array (Option Value)} (a : PySem.W.nsIn K mainGlobals "_law_later_first" = some (some (.ref f))) (l : K.lookup f = some ⟨oc, od, .func (PySem.W.fnOf "_law_later_first" "_law_later_first" (defArgs s_law_later_first) (defBody s_law_later_first) (defScope s_law_later_first) .none kV dc pm an cd ct), sl⟩) (c : PySem.W.codeIn K cd "_law_later_first" = true) (k : PySem.W.keepIn K (.ref f) = true) : FA K mg "_law_later_first" "_law_later_first" s_law_later_first ["notes"] :=
  ⟨f, _, L2.fun_mk (st := s_law_later_first) l c k, PySem.W.mg_of X G a, (L2.fun_mk (st := s_law_later_first) l c k).binds (ps := ["notes"]) fun _ _ _ _ _ _ us hl => match us, hl with | [_], _ => rfl⟩
theorem fa_law_moments (X : K.In h) (G : h.Ns mainGlobals mg) {f : Addr} {oc kV dc pm cd ct : Value} {od an : Option Addr} {sl : Array (Option Value)} (a : PySem.W.nsIn K mainGlobals "_law_moments" = some (some (.ref f))) (l : K.lookup f = some ⟨oc, od, .func (PySem.W.fnOf "_law_moments" "_law_moments" (defArgs s_law_moments) (defBody s_law_moments) (defScope s_law_moments) .none kV dc pm an cd ct), sl⟩) (c : PySem.W.codeIn K cd "_law_moments" = true) (k : PySem.W.keepIn K (.ref f) = true) : FA K mg "_law_moments" "_law_moments" s_law_moments ["notes", "draws"] :=
  ⟨f, _, L2.fun_mk (st := s_law_moments) l c k, PySem.W.mg_of X G a, (L2.fun_mk (st := s_law_moments) l c k).binds (ps := ["notes", "draws"]) fun _ _ _ _ _ _ us hl => match us, hl with | [_, _], _ => rfl⟩
theorem fa_law_told_moments (X : K.In h) (G : h.Ns mainGlobals mg) {f : Addr} {oc kV dc pm cd ct : Value} {od an : Option Addr} {sl : Array (Option Value)} (a : PySem.W.nsIn K mainGlobals "_law_told_moments" = some (some (.ref f))) (l : K.lookup f = some ⟨oc, od, .func (PySem.W.fnOf "_law_told_moments" "_law_told_moments" (defArgs s_law_told_moments) (defBody s_law_told_moments) (defScope s_law_told_moments) .none kV dc pm an cd ct), sl⟩) (c : PySem.W.codeIn K cd "_law_told_moments" = true) (k : PySem.W.keepIn K (.ref f) = true) : FA K mg "_law_told_moments" "_law_told_moments" s_law_told_moments ["notes"] :=
  ⟨f, _, L2.fun_mk (st := s_law_told_moments) l c k, PySem.W.mg_of X G a, (L2.fun_mk (st := s_law_told_moments) l c k).binds (ps := ["notes"]) fun _ _ _ _ _ _ us hl => match us, hl with | [_], _ => rfl⟩
theorem fa_law_verdict (X : K.In h) (G : h.Ns mainGlobals mg) {f : Addr} {oc kV dc pm cd ct : Value} {od an : Option Addr} {sl : Array (Option Value)} (a : PySem.W.nsIn K mainGlobals "_law_verdict" = some (some (.ref f))) (l : K.lookup f = some ⟨oc, od, .func (PySem.W.fnOf "_law_verdict" "_law_verdict" (defArgs s_law_verdict) (defBody s_law_verdict) (defScope s_law_verdict) .none kV dc pm an cd ct), sl⟩) (c : PySem.W.codeIn K cd "_law_verdict" = true) (k : PySem.W.keepIn K (.ref f) = true) : FA K mg "_law_verdict" "_law_verdict" s_law_verdict ["notes"] :=
  ⟨f, _, L2.fun_mk (st := s_law_verdict) l c k, PySem.W.mg_of X G a, (L2.fun_mk (st := s_law_verdict) l c k).binds (ps := ["notes"]) fun _ _ _ _ _ _ us hl => match us, hl with | [_], _ => rfl⟩
theorem fa_is_piece (X : K.In h) (G : h.Ns mainGlobals mg) {f : Addr} {oc kV dc pm cd ct : Value} {od an : Option Addr} {sl : Array (Option Value)} (a : PySem.W.nsIn K mainGlobals "is_piece" = some (some (.ref f))) (l : K.lookup f = some ⟨oc, od, .func (PySem.W.fnOf "is_piece" "is_piece" (defArgs s_is_piece) (defBody s_is_piece) (defScope s_is_piece) .none kV dc pm an cd ct), sl⟩) (c : PySem.W.codeIn K cd "is_piece" = true) (k : PySem.W.keepIn K (.ref f) = true) : FA K mg "is_piece" "is_piece" s_is_piece ["notes", "piece"] :=
  ⟨f, _, L2.fun_mk (st := s_is_piece) l c k, PySem.W.mg_of X G a, (L2.fun_mk (st := s_is_piece) l c k).binds (ps := ["notes", "piece"]) fun _ _ _ _ _ _ us hl => match us, hl with | [_, _], _ => rfl⟩
theorem fa_is_plan (X : K.In h) (G : h.Ns mainGlobals mg) {f : Addr} {oc kV dc pm cd ct : Value} {od an : Option Addr} {sl : Array (Option Value)} (a : PySem.W.nsIn K mainGlobals "is_plan" = some (some (.ref f))) (l : K.lookup f = some ⟨oc, od, .func (PySem.W.fnOf "is_plan" "is_plan" (defArgs s_is_plan) (defBody s_is_plan) (defScope s_is_plan) .none kV dc pm an cd ct), sl⟩) (c : PySem.W.codeIn K cd "is_plan" = true) (k : PySem.W.keepIn K (.ref f) = true) : FA K mg "is_plan" "is_plan" s_is_plan ["notes", "pieces"] :=
  ⟨f, _, L2.fun_mk (st := s_is_plan) l c k, PySem.W.mg_of X G a, (L2.fun_mk (st := s_is_plan) l c k).binds (ps := ["notes", "pieces"]) fun _ _ _ _ _ _ us hl => match us, hl with | [_, _], _ => rfl⟩
theorem fa_judge_dated (X : K.In h) (G : h.Ns mainGlobals mg) {f : Addr} {oc kV dc pm cd ct : Value} {od an : Option Addr} {sl : Array (Option Value)} (a : PySem.W.nsIn K mainGlobals "judge_dated" = some (some (.ref f))) (l : K.lookup f = some ⟨oc, od, .func (PySem.W.fnOf "judge_dated" "judge_dated" (defArgs s_judge_dated) (defBody s_judge_dated) (defScope s_judge_dated) .none kV dc pm an cd ct), sl⟩) (c : PySem.W.codeIn K cd "judge_dated" = true) (k : PySem.W.keepIn K (.ref f) = true) : FA K mg "judge_dated" "judge_dated" s_judge_dated ["notes", "verdict"] :=
  ⟨f, _, L2.fun_mk (st := s_judge_dated) l c k, PySem.W.mg_of X G a, (L2.fun_mk (st := s_judge_dated) l c k).binds (ps := ["notes", "verdict"]) fun _ _ _ _ _ _ us hl => match us, hl with | [_, _], _ => rfl⟩
theorem fa_law (X : K.In h) (G : h.Ns mainGlobals mg) {f : Addr} {oc kV dc pm cd ct : Value} {od an : Option Addr} {sl : Array (Option Value)} (a : PySem.W.nsIn K mainGlobals "law" = some (some (.ref f))) (l : K.lookup f = some ⟨oc, od, .func (PySem.W.fnOf "law" "law" (defArgs s_law) (defBody s_law) (defScope s_law) .none kV dc pm an cd ct), sl⟩) (c : PySem.W.codeIn K cd "law" = true) (k : PySem.W.keepIn K (.ref f) = true) : FA K mg "law" "law" s_law ["script"] :=
  ⟨f, _, L2.fun_mk (st := s_law) l c k, PySem.W.mg_of X G a, (L2.fun_mk (st := s_law) l c k).binds (ps := ["script"]) fun _ _ _ _ _ _ us hl => match us, hl with | [_], _ => rfl⟩
theorem txt_mk (X : K.In h) (G : h.Ns mainGlobals mg)
    {f0 : Addr} {oc0 kV0 dc0 pm0 cd0 ct0 : Value} {od0 an0 : Option Addr} {sl0 : Array (Option Value)} (a0 : PySem.W.nsIn K mainGlobals "_law_accepts" = some (some (.ref f0))) (l0 : K.lookup f0 = some ⟨oc0, od0, .func (PySem.W.fnOf "_law_accepts" "_law_accepts" (defArgs s_law_accepts) (defBody s_law_accepts) (defScope s_law_accepts) .none kV0 dc0 pm0 an0 cd0 ct0), sl0⟩) (c0 : PySem.W.codeIn K cd0 "_law_accepts" = true) (k0 : PySem.W.keepIn K (.ref f0) = true)
    {f1 : Addr} {oc1 kV1 dc1 pm1 cd1 ct1 : Value} {od1 an1 : Option Addr} {sl1 : Array (Option Value)} (a1 : PySem.W.nsIn K mainGlobals "_law_bent" = some (some (.ref f1))) (l1 : K.lookup f1 = some ⟨oc1, od1, .func (PySem.W.fnOf "_law_bent" "_law_bent" (defArgs s_law_bent) (defBody s_law_bent) (defScope s_law_bent) .none kV1 dc1 pm1 an1 cd1 ct1), sl1⟩) (c1 : PySem.W.codeIn K cd1 "_law_bent" = true) (k1 : PySem.W.keepIn K (.ref f1) = true)
    {f2 : Addr} {oc2 kV2 dc2 pm2 cd2 ct2 : Value} {od2 an2 : Option Addr} {sl2 : Array (Option Value)} (a2 : PySem.W.nsIn K mainGlobals "_law_cell" = some (some (.ref f2))) (l2 : K.lookup f2 = some ⟨oc2, od2, .func (PySem.W.fnOf "_law_cell" "_law_cell" (defArgs s_law_cell) (defBody s_law_cell) (defScope s_law_cell) .none kV2 dc2 pm2 an2 cd2 ct2), sl2⟩) (c2 : PySem.W.codeIn K cd2 "_law_cell" = true) (k2 : PySem.W.keepIn K (.ref f2) = true)
    {f3 : Addr} {oc3 kV3 dc3 pm3 cd3 ct3 : Value} {od3 an3 : Option Addr} {sl3 : Array (Option Value)} (a3 : PySem.W.nsIn K mainGlobals "_law_numbers" = some (some (.ref f3))) (l3 : K.lookup f3 = some ⟨oc3, od3, .func (PySem.W.fnOf "_law_numbers" "_law_numbers" (defArgs s_law_numbers) (defBody s_law_numbers) (defScope s_law_numbers) .none kV3 dc3 pm3 an3 cd3 ct3), sl3⟩) (c3 : PySem.W.codeIn K cd3 "_law_numbers" = true) (k3 : PySem.W.keepIn K (.ref f3) = true)
    {f4 : Addr} {oc4 kV4 dc4 pm4 cd4 ct4 : Value} {od4 an4 : Option Addr} {sl4 : Array (Option Value)} (a4 : PySem.W.nsIn K mainGlobals "_law_dated" = some (some (.ref f4))) (l4 : K.lookup f4 = some ⟨oc4, od4, .func (PySem.W.fnOf "_law_dated" "_law_dated" (defArgs s_law_dated) (defBody s_law_dated) (defScope s_law_dated) .none kV4 dc4 pm4 an4 cd4 ct4), sl4⟩) (c4 : PySem.W.codeIn K cd4 "_law_dated" = true) (k4 : PySem.W.keepIn K (.ref f4) = true)
    {f5 : Addr} {oc5 kV5 dc5 pm5 cd5 ct5 : Value} {od5 an5 : Option Addr} {sl5 : Array (Option Value)} (a5 : PySem.W.nsIn K mainGlobals "_law_pieces" = some (some (.ref f5))) (l5 : K.lookup f5 = some ⟨oc5, od5, .func (PySem.W.fnOf "_law_pieces" "_law_pieces" (defArgs s_law_pieces) (defBody s_law_pieces) (defScope s_law_pieces) .none kV5 dc5 pm5 an5 cd5 ct5), sl5⟩) (c5 : PySem.W.codeIn K cd5 "_law_pieces" = true) (k5 : PySem.W.keepIn K (.ref f5) = true)
    {f6 : Addr} {oc6 kV6 dc6 pm6 cd6 ct6 : Value} {od6 an6 : Option Addr} {sl6 : Array (Option Value)} (a6 : PySem.W.nsIn K mainGlobals "_law_later_first" = some (some (.ref f6))) (l6 : K.lookup f6 = some ⟨oc6, od6, .func (PySem.W.fnOf "_law_later_first" "_law_later_first" (defArgs s_law_later_first) (defBody s_law_later_first) (defScope s_law_later_first) .none kV6 dc6 pm6 an6 cd6 ct6), sl6⟩) (c6 : PySem.W.codeIn K cd6 "_law_later_first" = true) (k6 : PySem.W.keepIn K (.ref f6) = true)
    {f7 : Addr} {oc7 kV7 dc7 pm7 cd7 ct7 : Value} {od7 an7 : Option Addr} {sl7 : Array (Option Value)} (a7 : PySem.W.nsIn K mainGlobals "_law_moments" = some (some (.ref f7))) (l7 : K.lookup f7 = some ⟨oc7, od7, .func (PySem.W.fnOf "_law_moments" "_law_moments" (defArgs s_law_moments) (defBody s_law_moments) (defScope s_law_moments) .none kV7 dc7 pm7 an7 cd7 ct7), sl7⟩) (c7 : PySem.W.codeIn K cd7 "_law_moments" = true) (k7 : PySem.W.keepIn K (.ref f7) = true)
    {f8 : Addr} {oc8 kV8 dc8 pm8 cd8 ct8 : Value} {od8 an8 : Option Addr} {sl8 : Array (Option Value)} (a8 : PySem.W.nsIn K mainGlobals "_law_told_moments" = some (some (.ref f8))) (l8 : K.lookup f8 = some ⟨oc8, od8, .func (PySem.W.fnOf "_law_told_moments" "_law_told_moments" (defArgs s_law_told_moments) (defBody s_law_told_moments) (defScope s_law_told_moments) .none kV8 dc8 pm8 an8 cd8 ct8), sl8⟩) (c8 : PySem.W.codeIn K cd8 "_law_told_moments" = true) (k8 : PySem.W.keepIn K (.ref f8) = true)
    {f9 : Addr} {oc9 kV9 dc9 pm9 cd9 ct9 : Value} {od9 an9 : Option Addr} {sl9 : Array (Option Value)} (a9 : PySem.W.nsIn K mainGlobals "_law_verdict" = some (some (.ref f9))) (l9 : K.lookup f9 = some ⟨oc9, od9, .func (PySem.W.fnOf "_law_verdict" "_law_verdict" (defArgs s_law_verdict) (defBody s_law_verdict) (defScope s_law_verdict) .none kV9 dc9 pm9 an9 cd9 ct9), sl9⟩) (c9 : PySem.W.codeIn K cd9 "_law_verdict" = true) (k9 : PySem.W.keepIn K (.ref f9) = true)
    {f10 : Addr} {oc10 kV10 dc10 pm10 cd10 ct10 : Value} {od10 an10 : Option Addr} {sl10 : Array (Option Value)} (a10 : PySem.W.nsIn K mainGlobals "is_piece" = some (some (.ref f10))) (l10 : K.lookup f10 = some ⟨oc10, od10, .func (PySem.W.fnOf "is_piece" "is_piece" (defArgs s_is_piece) (defBody s_is_piece) (defScope s_is_piece) .none kV10 dc10 pm10 an10 cd10 ct10), sl10⟩) (c10 : PySem.W.codeIn K cd10 "is_piece" = true) (k10 : PySem.W.keepIn K (.ref f10) = true)
    {f11 : Addr} {oc11 kV11 dc11 pm11 cd11 ct11 : Value} {od11 an11 : Option Addr} {sl11 : Array (Option Value)} (a11 : PySem.W.nsIn K mainGlobals "is_plan" = some (some (.ref f11))) (l11 : K.lookup f11 = some ⟨oc11, od11, .func (PySem.W.fnOf "is_plan" "is_plan" (defArgs s_is_plan) (defBody s_is_plan) (defScope s_is_plan) .none kV11 dc11 pm11 an11 cd11 ct11), sl11⟩) (c11 : PySem.W.codeIn K cd11 "is_plan" = true) (k11 : PySem.W.keepIn K (.ref f11) = true)
    {f12 : Addr} {oc12 kV12 dc12 pm12 cd12 ct12 : Value} {od12 an12 : Option Addr} {sl12 : Array (Option Value)} (a12 : PySem.W.nsIn K mainGlobals "judge_dated" = some (some (.ref f12))) (l12 : K.lookup f12 = some ⟨oc12, od12, .func (PySem.W.fnOf "judge_dated" "judge_dated" (defArgs s_judge_dated) (defBody s_judge_dated) (defScope s_judge_dated) .none kV12 dc12 pm12 an12 cd12 ct12), sl12⟩) (c12 : PySem.W.codeIn K cd12 "judge_dated" = true) (k12 : PySem.W.keepIn K (.ref f12) = true)
    {f13 : Addr} {oc13 kV13 dc13 pm13 cd13 ct13 : Value} {od13 an13 : Option Addr} {sl13 : Array (Option Value)} (a13 : PySem.W.nsIn K mainGlobals "law" = some (some (.ref f13))) (l13 : K.lookup f13 = some ⟨oc13, od13, .func (PySem.W.fnOf "law" "law" (defArgs s_law) (defBody s_law) (defScope s_law) .none kV13 dc13 pm13 an13 cd13 ct13), sl13⟩) (c13 : PySem.W.codeIn K cd13 "law" = true) (k13 : PySem.W.keepIn K (.ref f13) = true)
    (z_all : PySem.W.nsIn K mainGlobals "all" = some none)
    (z_any : PySem.W.nsIn K mainGlobals "any" = some none)
    (z_bool : PySem.W.nsIn K mainGlobals "bool" = some none)
    (z_int : PySem.W.nsIn K mainGlobals "int" = some none)
    (z_isinstance : PySem.W.nsIn K mainGlobals "isinstance" = some none)
    (z_len : PySem.W.nsIn K mainGlobals "len" = some none)
    (z_list : PySem.W.nsIn K mainGlobals "list" = some none)
    (z_max : PySem.W.nsIn K mainGlobals "max" = some none)
    (z_min : PySem.W.nsIn K mainGlobals "min" = some none)
    (z_range : PySem.W.nsIn K mainGlobals "range" = some none)
    (z_sorted : PySem.W.nsIn K mainGlobals "sorted" = some none)
    (z_sum : PySem.W.nsIn K mainGlobals "sum" = some none) : Txt K mg :=
  ⟨fa_law_accepts X G a0 l0 c0 k0, fa_law_bent X G a1 l1 c1 k1, fa_law_cell X G a2 l2 c2 k2, fa_law_numbers X G a3 l3 c3 k3, fa_law_dated X G a4 l4 c4 k4, fa_law_pieces X G a5 l5 c5 k5, fa_law_later_first X G a6 l6 c6 k6, fa_law_moments X G a7 l7 c7 k7, fa_law_told_moments X G a8 l8 c8 k8, fa_law_verdict X G a9 l9 c9 k9, fa_is_piece X G a10 l10 c10 k10, fa_is_plan X G a11 l11 c11 k11, fa_judge_dated X G a12 l12 c12 k12, fa_law X G a13 l13 c13 k13, PySem.W.mg_none_of X G z_all, PySem.W.mg_none_of X G z_any, PySem.W.mg_none_of X G z_bool, PySem.W.mg_none_of X G z_int, PySem.W.mg_none_of X G z_isinstance, PySem.W.mg_none_of X G z_len, PySem.W.mg_none_of X G z_list, PySem.W.mg_none_of X G z_max, PySem.W.mg_none_of X G z_min, PySem.W.mg_none_of X G z_range, PySem.W.mg_none_of X G z_sorted, PySem.W.mg_none_of X G z_sum⟩
theorem fin_mk {P : Program} {w : World} (X : K.In h) (G : h.Ns mainGlobals mg) {fa : Addr} (hfa : mg "law" = some (.ref fa)) (hlaw : ∀ ns : List Int, ns.length ≤ 63 → ∃ sh, m_law [.list (ns.map .int)] = some (sh, .bool true))
    {f0 : Addr} {oc0 kV0 dc0 pm0 cd0 ct0 : Value} {od0 an0 : Option Addr} {sl0 : Array (Option Value)} (a0 : PySem.W.nsIn K mainGlobals "_law_accepts" = some (some (.ref f0))) (l0 : K.lookup f0 = some ⟨oc0, od0, .func (PySem.W.fnOf "_law_accepts" "_law_accepts" (defArgs s_law_accepts) (defBody s_law_accepts) (defScope s_law_accepts) .none kV0 dc0 pm0 an0 cd0 ct0), sl0⟩) (c0 : PySem.W.codeIn K cd0 "_law_accepts" = true) (k0 : PySem.W.keepIn K (.ref f0) = true)
    {f1 : Addr} {oc1 kV1 dc1 pm1 cd1 ct1 : Value} {od1 an1 : Option Addr} {sl1 : Array (Option Value)} (a1 : PySem.W.nsIn K mainGlobals "_law_bent" = some (some (.ref f1))) (l1 : K.lookup f1 = some ⟨oc1, od1, .func (PySem.W.fnOf "_law_bent" "_law_bent" (defArgs s_law_bent) (defBody s_law_bent) (defScope s_law_bent) .none kV1 dc1 pm1 an1 cd1 ct1), sl1⟩) (c1 : PySem.W.codeIn K cd1 "_law_bent" = true) (k1 : PySem.W.keepIn K (.ref f1) = true)
    {f2 : Addr} {oc2 kV2 dc2 pm2 cd2 ct2 : Value} {od2 an2 : Option Addr} {sl2 : Array (Option Value)} (a2 : PySem.W.nsIn K mainGlobals "_law_cell" = some (some (.ref f2))) (l2 : K.lookup f2 = some ⟨oc2, od2, .func (PySem.W.fnOf "_law_cell" "_law_cell" (defArgs s_law_cell) (defBody s_law_cell) (defScope s_law_cell) .none kV2 dc2 pm2 an2 cd2 ct2), sl2⟩) (c2 : PySem.W.codeIn K cd2 "_law_cell" = true) (k2 : PySem.W.keepIn K (.ref f2) = true)
    {f3 : Addr} {oc3 kV3 dc3 pm3 cd3 ct3 : Value} {od3 an3 : Option Addr} {sl3 : Array (Option Value)} (a3 : PySem.W.nsIn K mainGlobals "_law_numbers" = some (some (.ref f3))) (l3 : K.lookup f3 = some ⟨oc3, od3, .func (PySem.W.fnOf "_law_numbers" "_law_numbers" (defArgs s_law_numbers) (defBody s_law_numbers) (defScope s_law_numbers) .none kV3 dc3 pm3 an3 cd3 ct3), sl3⟩) (c3 : PySem.W.codeIn K cd3 "_law_numbers" = true) (k3 : PySem.W.keepIn K (.ref f3) = true)
    {f4 : Addr} {oc4 kV4 dc4 pm4 cd4 ct4 : Value} {od4 an4 : Option Addr} {sl4 : Array (Option Value)} (a4 : PySem.W.nsIn K mainGlobals "_law_dated" = some (some (.ref f4))) (l4 : K.lookup f4 = some ⟨oc4, od4, .func (PySem.W.fnOf "_law_dated" "_law_dated" (defArgs s_law_dated) (defBody s_law_dated) (defScope s_law_dated) .none kV4 dc4 pm4 an4 cd4 ct4), sl4⟩) (c4 : PySem.W.codeIn K cd4 "_law_dated" = true) (k4 : PySem.W.keepIn K (.ref f4) = true)
    {f5 : Addr} {oc5 kV5 dc5 pm5 cd5 ct5 : Value} {od5 an5 : Option Addr} {sl5 : Array (Option Value)} (a5 : PySem.W.nsIn K mainGlobals "_law_pieces" = some (some (.ref f5))) (l5 : K.lookup f5 = some ⟨oc5, od5, .func (PySem.W.fnOf "_law_pieces" "_law_pieces" (defArgs s_law_pieces) (defBody s_law_pieces) (defScope s_law_pieces) .none kV5 dc5 pm5 an5 cd5 ct5), sl5⟩) (c5 : PySem.W.codeIn K cd5 "_law_pieces" = true) (k5 : PySem.W.keepIn K (.ref f5) = true)
    {f6 : Addr} {oc6 kV6 dc6 pm6 cd6 ct6 : Value} {od6 an6 : Option Addr} {sl6 : Array (Option Value)} (a6 : PySem.W.nsIn K mainGlobals "_law_later_first" = some (some (.ref f6))) (l6 : K.lookup f6 = some ⟨oc6, od6, .func (PySem.W.fnOf "_law_later_first" "_law_later_first" (defArgs s_law_later_first) (defBody s_law_later_first) (defScope s_law_later_first) .none kV6 dc6 pm6 an6 cd6 ct6), sl6⟩) (c6 : PySem.W.codeIn K cd6 "_law_later_first" = true) (k6 : PySem.W.keepIn K (.ref f6) = true)
    {f7 : Addr} {oc7 kV7 dc7 pm7 cd7 ct7 : Value} {od7 an7 : Option Addr} {sl7 : Array (Option Value)} (a7 : PySem.W.nsIn K mainGlobals "_law_moments" = some (some (.ref f7))) (l7 : K.lookup f7 = some ⟨oc7, od7, .func (PySem.W.fnOf "_law_moments" "_law_moments" (defArgs s_law_moments) (defBody s_law_moments) (defScope s_law_moments) .none kV7 dc7 pm7 an7 cd7 ct7), sl7⟩) (c7 : PySem.W.codeIn K cd7 "_law_moments" = true) (k7 : PySem.W.keepIn K (.ref f7) = true)
    {f8 : Addr} {oc8 kV8 dc8 pm8 cd8 ct8 : Value} {od8 an8 : Option Addr} {sl8 : Array (Option Value)} (a8 : PySem.W.nsIn K mainGlobals "_law_told_moments" = some (some (.ref f8))) (l8 : K.lookup f8 = some ⟨oc8, od8, .func (PySem.W.fnOf "_law_told_moments" "_law_told_moments" (defArgs s_law_told_moments) (defBody s_law_told_moments) (defScope s_law_told_moments) .none kV8 dc8 pm8 an8 cd8 ct8), sl8⟩) (c8 : PySem.W.codeIn K cd8 "_law_told_moments" = true) (k8 : PySem.W.keepIn K (.ref f8) = true)
    {f9 : Addr} {oc9 kV9 dc9 pm9 cd9 ct9 : Value} {od9 an9 : Option Addr} {sl9 : Array (Option Value)} (a9 : PySem.W.nsIn K mainGlobals "_law_verdict" = some (some (.ref f9))) (l9 : K.lookup f9 = some ⟨oc9, od9, .func (PySem.W.fnOf "_law_verdict" "_law_verdict" (defArgs s_law_verdict) (defBody s_law_verdict) (defScope s_law_verdict) .none kV9 dc9 pm9 an9 cd9 ct9), sl9⟩) (c9 : PySem.W.codeIn K cd9 "_law_verdict" = true) (k9 : PySem.W.keepIn K (.ref f9) = true)
    {f10 : Addr} {oc10 kV10 dc10 pm10 cd10 ct10 : Value} {od10 an10 : Option Addr} {sl10 : Array (Option Value)} (a10 : PySem.W.nsIn K mainGlobals "is_piece" = some (some (.ref f10))) (l10 : K.lookup f10 = some ⟨oc10, od10, .func (PySem.W.fnOf "is_piece" "is_piece" (defArgs s_is_piece) (defBody s_is_piece) (defScope s_is_piece) .none kV10 dc10 pm10 an10 cd10 ct10), sl10⟩) (c10 : PySem.W.codeIn K cd10 "is_piece" = true) (k10 : PySem.W.keepIn K (.ref f10) = true)
    {f11 : Addr} {oc11 kV11 dc11 pm11 cd11 ct11 : Value} {od11 an11 : Option Addr} {sl11 : Array (Option Value)} (a11 : PySem.W.nsIn K mainGlobals "is_plan" = some (some (.ref f11))) (l11 : K.lookup f11 = some ⟨oc11, od11, .func (PySem.W.fnOf "is_plan" "is_plan" (defArgs s_is_plan) (defBody s_is_plan) (defScope s_is_plan) .none kV11 dc11 pm11 an11 cd11 ct11), sl11⟩) (c11 : PySem.W.codeIn K cd11 "is_plan" = true) (k11 : PySem.W.keepIn K (.ref f11) = true)
    {f12 : Addr} {oc12 kV12 dc12 pm12 cd12 ct12 : Value} {od12 an12 : Option Addr} {sl12 : Array (Option Value)} (a12 : PySem.W.nsIn K mainGlobals "judge_dated" = some (some (.ref f12))) (l12 : K.lookup f12 = some ⟨oc12, od12, .func (PySem.W.fnOf "judge_dated" "judge_dated" (defArgs s_judge_dated) (defBody s_judge_dated) (defScope s_judge_dated) .none kV12 dc12 pm12 an12 cd12 ct12), sl12⟩) (c12 : PySem.W.codeIn K cd12 "judge_dated" = true) (k12 : PySem.W.keepIn K (.ref f12) = true)
    {f13 : Addr} {oc13 kV13 dc13 pm13 cd13 ct13 : Value} {od13 an13 : Option Addr} {sl13 : Array (Option Value)} (a13 : PySem.W.nsIn K mainGlobals "law" = some (some (.ref f13))) (l13 : K.lookup f13 = some ⟨oc13, od13, .func (PySem.W.fnOf "law" "law" (defArgs s_law) (defBody s_law) (defScope s_law) .none kV13 dc13 pm13 an13 cd13 ct13), sl13⟩) (c13 : PySem.W.codeIn K cd13 "law" = true) (k13 : PySem.W.keepIn K (.ref f13) = true)
    (z_all : PySem.W.nsIn K mainGlobals "all" = some none)
    (z_any : PySem.W.nsIn K mainGlobals "any" = some none)
    (z_bool : PySem.W.nsIn K mainGlobals "bool" = some none)
    (z_int : PySem.W.nsIn K mainGlobals "int" = some none)
    (z_isinstance : PySem.W.nsIn K mainGlobals "isinstance" = some none)
    (z_len : PySem.W.nsIn K mainGlobals "len" = some none)
    (z_list : PySem.W.nsIn K mainGlobals "list" = some none)
    (z_max : PySem.W.nsIn K mainGlobals "max" = some none)
    (z_min : PySem.W.nsIn K mainGlobals "min" = some none)
    (z_range : PySem.W.nsIn K mainGlobals "range" = some none)
    (z_sorted : PySem.W.nsIn K mainGlobals "sorted" = some none)
    (z_sum : PySem.W.nsIn K mainGlobals "sum" = some none) :
    ∃ fd : FuncData, (∀ (s : Shared) (v : Value), BindsTo s fd ⟨[v], []⟩ [("script", v)]) ∧ ∀ base : Heap, K.In base → base.Ns mainGlobals mg → FnOk P w K mg base CX0 4 fa fd ["script"] (spLaw K) := by
  have e := hfa.symm.trans (PySem.W.mg_of X G a13)
  cases e
  have T : Txt K mg := txt_mk X G a0 l0 c0 k0 a1 l1 c1 k1 a2 l2 c2 k2 a3 l3 c3 k3 a4 l4 c4 k4 a5 l5 c5 k5 a6 l6 c6 k6 a7 l7 c7 k7 a8 l8 c8 k8 a9 l9 c9 k9 a10 l10 c10 k10 a11 l11 c11 k11 a12 l12 c12 k12 a13 l13 c13 k13 z_all z_any z_bool z_int z_isinstance z_len z_list z_max z_min z_range z_sorted z_sum
  exact ⟨PySem.W.fnOf "law" "law" (defArgs s_law) (defBody s_law) (defScope s_law) .none kV13 dc13 pm13 an13 cd13 ct13, fun s v => .of_eq rfl, fun base _ _ => law_imp (okk_law (L2.fun_mk (st := s_law) l13 c13 k13) T) hlaw⟩
end
end K56

set_option maxRecDepth 100000
set_option linter.all false
set_option maxHeartbeats 4000000
namespace K56
open PySem M
def cellF (ns : List Int) (k : Nat) : Int := ns.getD k 0
theorem law_cell_eq (ns : List Int) (k : Nat) : m_law_cell [.list (ns.map .int), .int k] = some (.s, .int (cellF ns k)) := by
  unfold m_law_cell runF b_law_cell cellF
  by_cases h : k < ns.length
  · simp -implicitDefEqProofs (disch := omega) [mSeq, mIfS, mTv, mTr, truD, m2, m1, m3, mVar, mC, mCS, mCall, mCons, mNil, rdS, asB, asI, mRet, mRetN, xOf, mSkip, mExp, mSet, mSetF, shareE, mSetT, store, kill, mAnd, mOr, mNot, mAndV, mOrV, mNotV, mIte, mLst, mTup, mApp, pVar, atP, subS, setS, okE, Sh.beq, mPut, mIsN, mNotN, isNon, mIsi, mIsB, mNotB, mSl, oSo, oNo, gSl, elemsL, elemsR, mCL, mCLL, mCIL, mCI, mFrz, mAug, mBrk, mCnt, mPop, mRevL, iSq, iR1, iR2, iEn, iZp, iRv, ownB, wipeE, mYes, gs0, ss0, gs1, ss1, gs2, ss2, gs3, ss3, gs4, ss4, gs5, ss5, gs6, ss6, gs7, ss7, gs8, ss8, gs9, ss9, gs10, ss10, gs11, ss11, gs12, ss12, gs13, ss13, gs14, ss14, gs15, ss15, gs16, ss16, gs17, ss17, gs18, ss18, gs19, ss19, gs20, ss20, gs21, ss21, gs22, ss22, gs23, ss23, gs24, ss24, gs25, ss25, gs26, ss26, gs27, ss27, gs28, ss28, gs29, ss29, add_ii, sub_ii, mod_ii, div_ii, mul_ii, neg_i, lt_ii, le_ii, gt_ii, ge_ii, eq_ii, ne_ii, len_l, len_t, int_i, int_b, R.sha, h, ix_map_s]
  · simp -implicitDefEqProofs (disch := omega) [mSeq, mIfS, mTv, mTr, truD, m2, m1, m3, mVar, mC, mCS, mCall, mCons, mNil, rdS, asB, asI, mRet, mRetN, xOf, mSkip, mExp, mSet, mSetF, shareE, mSetT, store, kill, mAnd, mOr, mNot, mAndV, mOrV, mNotV, mIte, mLst, mTup, mApp, pVar, atP, subS, setS, okE, Sh.beq, mPut, mIsN, mNotN, isNon, mIsi, mIsB, mNotB, mSl, oSo, oNo, gSl, elemsL, elemsR, mCL, mCLL, mCIL, mCI, mFrz, mAug, mBrk, mCnt, mPop, mRevL, iSq, iR1, iR2, iEn, iZp, iRv, ownB, wipeE, mYes, gs0, ss0, gs1, ss1, gs2, ss2, gs3, ss3, gs4, ss4, gs5, ss5, gs6, ss6, gs7, ss7, gs8, ss8, gs9, ss9, gs10, ss10, gs11, ss11, gs12, ss12, gs13, ss13, gs14, ss14, gs15, ss15, gs16, ss16, gs17, ss17, gs18, ss18, gs19, ss19, gs20, ss20, gs21, ss21, gs22, ss22, gs23, ss23, gs24, ss24, gs25, ss25, gs26, ss26, gs27, ss27, gs28, ss28, gs29, ss29, add_ii, sub_ii, mod_ii, div_ii, mul_ii, neg_i, lt_ii, le_ii, gt_ii, ge_ii, eq_ii, ne_ii, len_l, len_t, int_i, int_b, R.sha, h]
def Bnd (n : Nat) (lim : Int) (xs : List Int) : Prop := xs.length = n ∧ ∀ x ∈ xs, 0 ≤ x ∧ x < lim
theorem numbers_body (c small rest lim : Int) (n k : Nat) (xs : List Int) (v7 : Option (Sh × D)) (h : 0 < lim) (h2 : lim < 1073741824) (hr : 0 ≤ rest) (hx : xs.length < 16777216) (hs : 0 ≤ small ∧ small < 2147483647) :
    ∃ rest' x v7', 0 ≤ x ∧ x < lim ∧ 0 ≤ rest' ∧ l1_law_numbers [some (.s, .int c), some (.s, .int n), some (.s, .int lim), some (.s, .int small), some (.s, .int rest), some (.l .s, .list (xs.map .int)), some (.s, .int k), v7] =
      some (.nx [some (.s, .int c), some (.s, .int n), some (.s, .int lim), some (.s, .int small), some (.s, .int rest'), some (.l .s, .list ((xs ++ [x]).map .int)), some (.s, .int k), v7']) := by
  have hz : sizeLine = 16777216 := sizeLine_val
  unfold l1_law_numbers
  by_cases hc : 0 < rest
  · refine ⟨rest / lim, rest % lim, v7, Int.emod_nonneg _ (by omega), Int.emod_lt_of_pos _ h, Int.ediv_nonneg hr (by omega), ?_⟩
    simp -implicitDefEqProofs (disch := omega) [mSeq, mIfS, mTv, mTr, truD, m2, m1, m3, mVar, mC, mCS, mCall, mCons, mNil, rdS, asB, asI, mRet, mRetN, xOf, mSkip, mExp, mSet, mSetF, shareE, mSetT, store, kill, mAnd, mOr, mNot, mAndV, mOrV, mNotV, mIte, mLst, mTup, mApp, pVar, atP, subS, setS, okE, Sh.beq, mPut, mIsN, mNotN, isNon, mIsi, mIsB, mNotB, mSl, oSo, oNo, gSl, elemsL, elemsR, mCL, mCLL, mCIL, mCI, mFrz, mAug, mBrk, mCnt, mPop, mRevL, iSq, iR1, iR2, iEn, iZp, iRv, ownB, wipeE, mYes, gs0, ss0, gs1, ss1, gs2, ss2, gs3, ss3, gs4, ss4, gs5, ss5, gs6, ss6, gs7, ss7, gs8, ss8, gs9, ss9, gs10, ss10, gs11, ss11, gs12, ss12, gs13, ss13, gs14, ss14, gs15, ss15, gs16, ss16, gs17, ss17, gs18, ss18, gs19, ss19, gs20, ss20, gs21, ss21, gs22, ss22, gs23, ss23, gs24, ss24, gs25, ss25, gs26, ss26, gs27, ss27, gs28, ss28, gs29, ss29, add_ii, sub_ii, mod_ii, div_ii, mul_ii, neg_i, lt_ii, le_ii, gt_ii, ge_ii, eq_ii, ne_ii, len_l, len_t, int_i, int_b, R.sha, hc, hz, hx]
  · have hm1 : 0 ≤ (small * 48271 + (k : Int) * 69621 + 7) % 2147483647 ∧ (small * 48271 + (k : Int) * 69621 + 7) % 2147483647 < 2147483647 := ⟨Int.emod_nonneg _ (by decide), Int.emod_lt_of_pos _ (by decide)⟩
    generalize hg : (small * 48271 + (k : Int) * 69621 + 7) % 2147483647 = m at hm1
    refine ⟨rest, ((m * m + m * 40692 + (k : Int) * 16807 + 11) % 2147483399 / 32) % lim, some (.s, .int ((m * m + m * 40692 + (k : Int) * 16807 + 11) % 2147483399)), Int.emod_nonneg _ (by omega), Int.emod_lt_of_pos _ h, hr, ?_⟩
    simp -implicitDefEqProofs (disch := omega) [mSeq, mIfS, mTv, mTr, truD, m2, m1, m3, mVar, mC, mCS, mCall, mCons, mNil, rdS, asB, asI, mRet, mRetN, xOf, mSkip, mExp, mSet, mSetF, shareE, mSetT, store, kill, mAnd, mOr, mNot, mAndV, mOrV, mNotV, mIte, mLst, mTup, mApp, pVar, atP, subS, setS, okE, Sh.beq, mPut, mIsN, mNotN, isNon, mIsi, mIsB, mNotB, mSl, oSo, oNo, gSl, elemsL, elemsR, mCL, mCLL, mCIL, mCI, mFrz, mAug, mBrk, mCnt, mPop, mRevL, iSq, iR1, iR2, iEn, iZp, iRv, ownB, wipeE, mYes, gs0, ss0, gs1, ss1, gs2, ss2, gs3, ss3, gs4, ss4, gs5, ss5, gs6, ss6, gs7, ss7, gs8, ss8, gs9, ss9, gs10, ss10, gs11, ss11, gs12, ss12, gs13, ss13, gs14, ss14, gs15, ss15, gs16, ss16, gs17, ss17, gs18, ss18, gs19, ss19, gs20, ss20, gs21, ss21, gs22, ss22, gs23, ss23, gs24, ss24, gs25, ss25, gs26, ss26, gs27, ss27, gs28, ss28, gs29, ss29, add_ii, sub_ii, mod_ii, div_ii, mul_ii, neg_i, lt_ii, le_ii, gt_ii, ge_ii, eq_ii, ne_ii, len_l, len_t, int_i, int_b, R.sha, hc, hz, hx, hg]
theorem law_numbers_ok (c : Int) (n : Nat) (lim : Int) (h : 0 < lim) (h2 : lim < 1073741824) (hn : n ≤ 100000) : ∃ xs : List Int, m_law_numbers [.int c, .int n, .int lim] = some (.l .s, .list (xs.map .int)) ∧ Bnd n lim xs := by
  have loop : ∀ (rest small : Int), 0 ≤ rest → 0 ≤ small ∧ small < 2147483647 → ∃ e', forL (fun d e => (tgN 6 e d).bind l1_law_numbers) (rngD 0 n) [some (.s, .int c), some (.s, .int n), some (.s, .int lim), some (.s, .int small), some (.s, .int rest), some (.l .s, .list []), none, none] = some (.nx e') ∧
      ∃ rest' xs v6 v7, e' = [some (.s, .int c), some (.s, .int n), some (.s, .int lim), some (.s, .int small), some (.s, .int rest'), some (.l .s, .list (xs.map .int)), v6, v7] ∧ Bnd n lim xs := by
    intro rest small hr hs
    obtain ⟨e', h1, rest', xs, v6, v7, h3, h4, h5⟩ := forL_inv (b := fun d e => (tgN 6 e d).bind l1_law_numbers) (ds := rngD 0 n) (env := [some (.s, .int c), some (.s, .int n), some (.s, .int lim), some (.s, .int small), some (.s, .int rest), some (.l .s, .list []), none, none])
      (fun i e => ∃ (rest' : Int) (xs : List Int) (v6 v7 : Option (Sh × D)), e = [some (.s, .int c), some (.s, .int n), some (.s, .int lim), some (.s, .int small), some (.s, .int rest'), some (.l .s, .list (xs.map .int)), v6, v7] ∧ Bnd i lim xs ∧ 0 ≤ rest')
      ⟨rest, [], none, none, rfl, ⟨rfl, fun x hx => by cases hx⟩, hr⟩ (by
        rintro i d e hd ⟨rest', xs, v6, v7, rfl, ⟨hl, hb⟩, hr'⟩
        obtain ⟨hi, rfl⟩ := rngD_at hd
        obtain ⟨rest2, x, v7', hx1, hx2, hr2, hb2⟩ := numbers_body c small rest' lim n i xs v7 h h2 hr' (by omega) hs
        refine ⟨_, ?_, rest2, xs ++ [x], some (.s, .int i), v7', rfl, ⟨by simp [hl], fun y hy => ?_⟩, hr2⟩
        · rw [Int.zero_add]
          simp only [tgN, store, kill, List.length_cons, List.length_nil, ss6, ss5, ss4, ss3, ss2, ss1, ss0]
          simpa using hb2
        · rcases List.mem_append.mp hy with hy | hy
          · exact hb y hy
          · have : y = x := by simpa using hy
            subst this
            exact ⟨hx1, hx2⟩)
    rw [rngD_len] at h4
    exact ⟨e', h1, rest', xs, v6, v7, h3, h4⟩
  unfold m_law_numbers runF b_law_numbers
  have hsm : 0 ≤ c % 2147483647 ∧ c % 2147483647 < 2147483647 := ⟨Int.emod_nonneg _ (by decide), Int.emod_lt_of_pos _ (by decide)⟩
  have hok : okR (n : Int) = true := by simp [okR]; omega
  by_cases hc : 1000000000000000000 ≤ c
  · obtain ⟨e', h1, rest', xs, v6, v7, rfl, hb⟩ := loop c (c % 2147483647) (by omega) hsm
    refine ⟨xs, ?_, hb⟩
    simp -implicitDefEqProofs (disch := omega) [mSeq, mIfS, mTv, mTr, truD, m2, m1, m3, mVar, mC, mCS, mCall, mCons, mNil, rdS, asB, asI, mRet, mRetN, xOf, mSkip, mExp, mSet, mSetF, shareE, mSetT, store, kill, mAnd, mOr, mNot, mAndV, mOrV, mNotV, mIte, mLst, mTup, mApp, pVar, atP, subS, setS, okE, Sh.beq, mPut, mIsN, mNotN, isNon, mIsi, mIsB, mNotB, mSl, oSo, oNo, gSl, elemsL, elemsR, mCL, mCLL, mCIL, mCI, mFrz, mAug, mBrk, mCnt, mPop, mRevL, iSq, iR1, iR2, iEn, iZp, iRv, ownB, wipeE, mYes, gs0, ss0, gs1, ss1, gs2, ss2, gs3, ss3, gs4, ss4, gs5, ss5, gs6, ss6, gs7, ss7, gs8, ss8, gs9, ss9, gs10, ss10, gs11, ss11, gs12, ss12, gs13, ss13, gs14, ss14, gs15, ss15, gs16, ss16, gs17, ss17, gs18, ss18, gs19, ss19, gs20, ss20, gs21, ss21, gs22, ss22, gs23, ss23, gs24, ss24, gs25, ss25, gs26, ss26, gs27, ss27, gs28, ss28, gs29, ss29, add_ii, sub_ii, mod_ii, div_ii, mul_ii, neg_i, lt_ii, le_ii, gt_ii, ge_ii, eq_ii, ne_ii, len_l, len_t, int_i, int_b, R.sha, pow_ii, hc, mFor, hok, h1]
  · obtain ⟨e', h1, rest', xs, v6, v7, rfl, hb⟩ := loop 0 (c % 2147483647) (by omega) hsm
    refine ⟨xs, ?_, hb⟩
    simp -implicitDefEqProofs (disch := omega) [mSeq, mIfS, mTv, mTr, truD, m2, m1, m3, mVar, mC, mCS, mCall, mCons, mNil, rdS, asB, asI, mRet, mRetN, xOf, mSkip, mExp, mSet, mSetF, shareE, mSetT, store, kill, mAnd, mOr, mNot, mAndV, mOrV, mNotV, mIte, mLst, mTup, mApp, pVar, atP, subS, setS, okE, Sh.beq, mPut, mIsN, mNotN, isNon, mIsi, mIsB, mNotB, mSl, oSo, oNo, gSl, elemsL, elemsR, mCL, mCLL, mCIL, mCI, mFrz, mAug, mBrk, mCnt, mPop, mRevL, iSq, iR1, iR2, iEn, iZp, iRv, ownB, wipeE, mYes, gs0, ss0, gs1, ss1, gs2, ss2, gs3, ss3, gs4, ss4, gs5, ss5, gs6, ss6, gs7, ss7, gs8, ss8, gs9, ss9, gs10, ss10, gs11, ss11, gs12, ss12, gs13, ss13, gs14, ss14, gs15, ss15, gs16, ss16, gs17, ss17, gs18, ss18, gs19, ss19, gs20, ss20, gs21, ss21, gs22, ss22, gs23, ss23, gs24, ss24, gs25, ss25, gs26, ss26, gs27, ss27, gs28, ss28, gs29, ss29, add_ii, sub_ii, mod_ii, div_ii, mul_ii, neg_i, lt_ii, le_ii, gt_ii, ge_ii, eq_ii, ne_ii, len_l, len_t, int_i, int_b, R.sha, pow_ii, hc, mFor, hok, h1]
end K56

set_option maxRecDepth 100000
set_option linter.all false
set_option maxHeartbeats 4000000
namespace K56
open PySem M
noncomputable def numF (c n lim : Int) : List Int := by
  classical
  exact if h : 0 < lim ∧ lim < 1073741824 ∧ 0 ≤ n ∧ n ≤ 100000 then Classical.choose (law_numbers_ok c n.toNat lim h.1 h.2.1 (by omega)) else []
theorem law_numbers_eq (c n lim : Int) (h : 0 < lim) (h2 : lim < 1073741824) (hn : 0 ≤ n) (hn2 : n ≤ 100000) : m_law_numbers [.int c, .int n, .int lim] = some (.l .s, .list ((numF c n lim).map .int)) ∧ Bnd n.toNat lim (numF c n lim) := by
  have hh : 0 < lim ∧ lim < 1073741824 ∧ 0 ≤ n ∧ n ≤ 100000 := ⟨h, h2, hn, hn2⟩
  have e : numF c n lim = Classical.choose (law_numbers_ok c n.toNat lim h h2 (by omega)) := by
    unfold numF; rw [dif_pos hh]
  have := Classical.choose_spec (law_numbers_ok c n.toNat lim h h2 (by omega))
  rw [← e, Int.toNat_of_nonneg hn] at this
  exact this
theorem num_m (c n lim : Int) (h : 0 < lim) (h2 : lim < 1073741824) (hn : 0 ≤ n) (hn2 : n ≤ 100000) : m_law_numbers [.int c, .int n, .int lim] = some (.l .s, .list ((numF c n lim).map .int)) := (law_numbers_eq c n lim h h2 hn hn2).1
theorem num_len (c n lim : Int) (h : 0 < lim) (h2 : lim < 1073741824) (hn : 0 ≤ n) (hn2 : n ≤ 100000) : (numF c n lim).length = n.toNat := (law_numbers_eq c n lim h h2 hn hn2).2.1
theorem num_bnd (c n lim : Int) (i : Nat) (h : 0 < lim) (h2 : lim < 1073741824) (hn : 0 ≤ n) (hn2 : n ≤ 100000) (hi : i < n.toNat) : 0 ≤ nth (numF c n lim) i ∧ nth (numF c n lim) i < lim :=
  (law_numbers_eq c n lim h h2 hn hn2).2.2 _ (nth_mem (by rw [num_len c n lim h h2 hn hn2]; exact hi))
def celF (ns : List Int) (k : Int) : Int := if k < ns.length then nth ns k.toNat else 0
theorem cel_m (ns : List Int) (k : Int) (h0 : 0 ≤ k) : m_law_cell [.list (ns.map .int), .int k] = some (.s, .int (celF ns k)) := by
  unfold m_law_cell runF b_law_cell celF
  by_cases h : k < ns.length
  · simp -implicitDefEqProofs (disch := omega) [mSeq, mIfS, mTv, mTr, truD, m2, m1, m3, mVar, mC, mCS, mCall, mCons, mNil, rdS, asB, asI, mRet, mRetN, xOf, mSkip, mExp, mSet, mSetF, shareE, mSetT, store, kill, mAnd, mOr, mNot, mAndV, mOrV, mNotV, mIte, mLst, mTup, mApp, pVar, atP, subS, setS, okE, Sh.beq, mPut, mIsN, mNotN, isNon, mIsi, mIsB, mNotB, mSl, oSo, oNo, gSl, elemsL, elemsR, mCL, mCLL, mCIL, mCI, mFrz, mAug, mBrk, mCnt, mPop, mRevL, iSq, iR1, iR2, iEn, iZp, iRv, ownB, wipeE, mYes, gs0, ss0, gs1, ss1, gs2, ss2, gs3, ss3, gs4, ss4, gs5, ss5, gs6, ss6, gs7, ss7, gs8, ss8, gs9, ss9, gs10, ss10, gs11, ss11, gs12, ss12, gs13, ss13, gs14, ss14, gs15, ss15, gs16, ss16, gs17, ss17, gs18, ss18, gs19, ss19, gs20, ss20, gs21, ss21, gs22, ss22, gs23, ss23, gs24, ss24, gs25, ss25, gs26, ss26, gs27, ss27, gs28, ss28, gs29, ss29, add_ii, sub_ii, mod_ii, div_ii, mul_ii, neg_i, lt_ii, le_ii, gt_ii, ge_ii, eq_ii, ne_ii, len_l, len_t, int_i, int_b, R.sha, ix_t0, ix_t1, ix_t2, ix_t3, eq_ss, ne_ss, eq_bb, ne_bb, h, ix_mS]
  · simp -implicitDefEqProofs (disch := omega) [mSeq, mIfS, mTv, mTr, truD, m2, m1, m3, mVar, mC, mCS, mCall, mCons, mNil, rdS, asB, asI, mRet, mRetN, xOf, mSkip, mExp, mSet, mSetF, shareE, mSetT, store, kill, mAnd, mOr, mNot, mAndV, mOrV, mNotV, mIte, mLst, mTup, mApp, pVar, atP, subS, setS, okE, Sh.beq, mPut, mIsN, mNotN, isNon, mIsi, mIsB, mNotB, mSl, oSo, oNo, gSl, elemsL, elemsR, mCL, mCLL, mCIL, mCI, mFrz, mAug, mBrk, mCnt, mPop, mRevL, iSq, iR1, iR2, iEn, iZp, iRv, ownB, wipeE, mYes, gs0, ss0, gs1, ss1, gs2, ss2, gs3, ss3, gs4, ss4, gs5, ss5, gs6, ss6, gs7, ss7, gs8, ss8, gs9, ss9, gs10, ss10, gs11, ss11, gs12, ss12, gs13, ss13, gs14, ss14, gs15, ss15, gs16, ss16, gs17, ss17, gs18, ss18, gs19, ss19, gs20, ss20, gs21, ss21, gs22, ss22, gs23, ss23, gs24, ss24, gs25, ss25, gs26, ss26, gs27, ss27, gs28, ss28, gs29, ss29, add_ii, sub_ii, mod_ii, div_ii, mul_ii, neg_i, lt_ii, le_ii, gt_ii, ge_ii, eq_ii, ne_ii, len_l, len_t, int_i, int_b, R.sha, ix_t0, ix_t1, ix_t2, ix_t3, eq_ss, ne_ss, eq_bb, ne_bb, h]
structure Note where
  a : Int
  d : Int
  b : Int
  deriving DecidableEq, Inhabited
def noteD (n : Note) : D := .tuple [.int n.a, .int n.d, .int n.b]
def GoodN (n : Note) : Prop := 0 ≤ n.a ∧ n.a < n.d ∧ n.d ≤ 100 ∧ 1 ≤ n.b ∧ n.b ≤ 100
def GoodNs (ns : List Note) : Prop := 1 ≤ ns.length ∧ ns.length ≤ 8 ∧ ∀ n ∈ ns, GoodN n
theorem pick3_b (j x y z : Int) (h1 : 0 < x) (h2 : x < y) (h3 : y < z) : 0 < pick3 j x y z ∧ pick3 j x y z ≤ z := by
  unfold pick3; split <;> (try split) <;> omega
theorem dated_body (ss : List Int) (at' : Int) (shape : List Int) (k : Nat) (xs : List Note) (v6 v7 v8 v9 : Option (Sh × D)) (hat : 0 ≤ at') (hsh : shape.length = 4) (hs : ∀ i < 4, 0 ≤ nth shape i ∧ nth shape i < 5040) (hx : xs.length < 100) :
    ∃ n v6' v7' v8' v9', GoodN n ∧ l1_law_dated [some (.s, .list (ss.map .int)), some (.s, .int at'), some (.s, .int 8), some (.s, .list (shape.map .int)), some (.l .s, .list (xs.map noteD)), some (.s, .int k), v6, v7, v8, v9] =
      some (.nx [some (.s, .list (ss.map .int)), some (.s, .int at'), some (.s, .int 8), some (.s, .list (shape.map .int)), some (.l .s, .list ((xs ++ [n]).map noteD)), some (.s, .int k), v6', v7', v8', v9']) := by
  have hz : sizeLine = 16777216 := sizeLine_val
  have hdl := num_len (celF ss (at' + 1 + k) + 23 * k) 5 5040 (by decide) (by decide) (by decide) (by decide)
  have hd := fun i hi => num_bnd (celF ss (at' + 1 + k) + 23 * k) 5 5040 i (by decide) (by decide) (by decide) (by decide) hi
  have hm := num_m (celF ss (at' + 1 + k) + 23 * k) 5 5040 (by decide) (by decide) (by decide) (by decide)
  have hc := cel_m ss (at' + 1 + k) (by omega)
  generalize numF (celF ss (at' + 1 + k) + 23 * k) 5 5040 = dr at *
  have q1 := pick3_b (nth shape 1 % 3) 4 12 25 (by decide) (by decide) (by decide)
  have q2 := pick3_b (nth shape 2 % 3) 3 6 9 (by decide) (by decide) (by decide)
  have q3 := pick3_b (nth shape 3 % 3) 3 9 30 (by decide) (by decide) (by decide)
  have s1 := hs 1 (by decide)
  have s2 := hs 2 (by decide)
  have s3 := hs 3 (by decide)
  have d0 := hd 0 (by decide)
  have d1 := hd 1 (by decide)
  have d2 := hd 2 (by decide)
  have d3 := hd 3 (by decide)
  have d4 := hd 4 (by decide)
  have a1 : 0 ≤ nth dr 0 % pick3 (nth shape 1 % 3) 4 12 25 ∧ nth dr 0 % pick3 (nth shape 1 % 3) 4 12 25 < pick3 (nth shape 1 % 3) 4 12 25 := ⟨Int.emod_nonneg _ (by omega), Int.emod_lt_of_pos _ (by omega)⟩
  have a2 : 0 ≤ nth dr 1 % pick3 (nth shape 2 % 3) 3 6 9 ∧ nth dr 1 % pick3 (nth shape 2 % 3) 3 6 9 < pick3 (nth shape 2 % 3) 3 6 9 := ⟨Int.emod_nonneg _ (by omega), Int.emod_lt_of_pos _ (by omega)⟩
  have a3 : 0 ≤ nth dr 2 % pick3 (nth shape 3 % 3) 3 9 30 ∧ nth dr 2 % pick3 (nth shape 3 % 3) 3 9 30 < pick3 (nth shape 3 % 3) 3 9 30 := ⟨Int.emod_nonneg _ (by omega), Int.emod_lt_of_pos _ (by omega)⟩
  unfold l1_law_dated
  have hx' : xs.length < 16777216 := by omega
  have hdl' : dr.length = 5 := hdl
  by_cases h6 : nth dr 3 % 6 = 0
  · have a4 : 0 ≤ nth dr 4 % (1 + nth dr 1 % pick3 (nth shape 2 % 3) 3 6 9) ∧ nth dr 4 % (1 + nth dr 1 % pick3 (nth shape 2 % 3) 3 6 9) < (1 + nth dr 1 % pick3 (nth shape 2 % 3) 3 6 9) := ⟨Int.emod_nonneg _ (by omega), Int.emod_lt_of_pos _ (by omega)⟩
    refine ⟨⟨nth dr 0 % pick3 (nth shape 1 % 3) 4 12 25, nth dr 0 % pick3 (nth shape 1 % 3) 4 12 25 + (1 + nth dr 4 % (1 + nth dr 1 % pick3 (nth shape 2 % 3) 3 6 9)), 1 + nth dr 1 % pick3 (nth shape 2 % 3) 3 6 9⟩, ?_⟩
    iterate 4 apply Exists.intro
    refine ⟨?_, ?_⟩
    · unfold GoodN; simp only; omega
    · simp -implicitDefEqProofs (disch := omega) [mSeq, mIfS, mTv, mTr, truD, m2, m1, m3, mVar, mC, mCS, mCall, mCons, mNil, rdS, asB, asI, mRet, mRetN, xOf, mSkip, mExp, mSet, mSetF, shareE, mSetT, store, kill, mAnd, mOr, mNot, mAndV, mOrV, mNotV, mIte, mLst, mTup, mApp, pVar, atP, subS, setS, okE, Sh.beq, mPut, mIsN, mNotN, isNon, mIsi, mIsB, mNotB, mSl, oSo, oNo, gSl, elemsL, elemsR, mCL, mCLL, mCIL, mCI, mFrz, mAug, mBrk, mCnt, mPop, mRevL, iSq, iR1, iR2, iEn, iZp, iRv, ownB, wipeE, mYes, gs0, ss0, gs1, ss1, gs2, ss2, gs3, ss3, gs4, ss4, gs5, ss5, gs6, ss6, gs7, ss7, gs8, ss8, gs9, ss9, gs10, ss10, gs11, ss11, gs12, ss12, gs13, ss13, gs14, ss14, gs15, ss15, gs16, ss16, gs17, ss17, gs18, ss18, gs19, ss19, gs20, ss20, gs21, ss21, gs22, ss22, gs23, ss23, gs24, ss24, gs25, ss25, gs26, ss26, gs27, ss27, gs28, ss28, gs29, ss29, add_ii, sub_ii, mod_ii, div_ii, mul_ii, neg_i, lt_ii, le_ii, gt_ii, ge_ii, eq_ii, ne_ii, len_l, len_t, int_i, int_b, R.sha, ix_t0, ix_t1, ix_t2, ix_t3, eq_ss, ne_ss, eq_bb, ne_bb, hc, hm, ix_mS, ix_l3, hz, h6, noteD, hx']
      exact ⟨rfl, rfl, rfl, rfl⟩
  · refine ⟨⟨nth dr 0 % pick3 (nth shape 1 % 3) 4 12 25, nth dr 0 % pick3 (nth shape 1 % 3) 4 12 25 + (1 + nth dr 1 % pick3 (nth shape 2 % 3) 3 6 9 + nth dr 2 % pick3 (nth shape 3 % 3) 3 9 30), 1 + nth dr 1 % pick3 (nth shape 2 % 3) 3 6 9⟩, ?_⟩
    iterate 4 apply Exists.intro
    refine ⟨?_, ?_⟩
    · unfold GoodN; simp only; omega
    · simp -implicitDefEqProofs (disch := omega) [mSeq, mIfS, mTv, mTr, truD, m2, m1, m3, mVar, mC, mCS, mCall, mCons, mNil, rdS, asB, asI, mRet, mRetN, xOf, mSkip, mExp, mSet, mSetF, shareE, mSetT, store, kill, mAnd, mOr, mNot, mAndV, mOrV, mNotV, mIte, mLst, mTup, mApp, pVar, atP, subS, setS, okE, Sh.beq, mPut, mIsN, mNotN, isNon, mIsi, mIsB, mNotB, mSl, oSo, oNo, gSl, elemsL, elemsR, mCL, mCLL, mCIL, mCI, mFrz, mAug, mBrk, mCnt, mPop, mRevL, iSq, iR1, iR2, iEn, iZp, iRv, ownB, wipeE, mYes, gs0, ss0, gs1, ss1, gs2, ss2, gs3, ss3, gs4, ss4, gs5, ss5, gs6, ss6, gs7, ss7, gs8, ss8, gs9, ss9, gs10, ss10, gs11, ss11, gs12, ss12, gs13, ss13, gs14, ss14, gs15, ss15, gs16, ss16, gs17, ss17, gs18, ss18, gs19, ss19, gs20, ss20, gs21, ss21, gs22, ss22, gs23, ss23, gs24, ss24, gs25, ss25, gs26, ss26, gs27, ss27, gs28, ss28, gs29, ss29, add_ii, sub_ii, mod_ii, div_ii, mul_ii, neg_i, lt_ii, le_ii, gt_ii, ge_ii, eq_ii, ne_ii, len_l, len_t, int_i, int_b, R.sha, ix_t0, ix_t1, ix_t2, ix_t3, eq_ss, ne_ss, eq_bb, ne_bb, hc, hm, ix_mS, ix_l3, hz, h6, noteD, hx']
      exact ⟨rfl, rfl, rfl, rfl⟩
theorem dated_ok (ss : List Int) (at' : Int) (hat : 0 ≤ at') : ∃ ns : List Note, m_law_dated [.list (ss.map .int), .int at', .int 8] = some (.l .s, .list (ns.map noteD)) ∧ GoodNs ns := by
  have hz : sizeLine = 16777216 := sizeLine_val
  have hsl := num_len (celF ss at') 4 5040 (by decide) (by decide) (by decide) (by decide)
  have hs := fun i hi => num_bnd (celF ss at') 4 5040 i (by decide) (by decide) (by decide) (by decide) hi
  have hm := num_m (celF ss at') 4 5040 (by decide) (by decide) (by decide) (by decide)
  have hc := cel_m ss at' hat
  generalize numF (celF ss at') 4 5040 = shape at *
  have s0 := hs 0 (by decide)
  have hsl' : shape.length = 4 := hsl
  obtain ⟨e', h1, xs, v5, v6, v7, v8, v9, h3, h4, h5⟩ := forL_inv (b := fun d e => (tgN 5 e d).bind l1_law_dated) (ds := rngD 0 (1 + nth shape 0 % 8).toNat) (env := [some (.s, .list (ss.map .int)), some (.s, .int at'), some (.s, .int 8), some (.s, .list (shape.map .int)), some (.l .s, .list []), none, none, none, none, none])
      (fun i e => ∃ (xs : List Note) (v5 v6 v7 v8 v9 : Option (Sh × D)), e = [some (.s, .list (ss.map .int)), some (.s, .int at'), some (.s, .int 8), some (.s, .list (shape.map .int)), some (.l .s, .list (xs.map noteD)), v5, v6, v7, v8, v9] ∧ xs.length = i ∧ ∀ n ∈ xs, GoodN n)
      ⟨[], none, none, none, none, none, rfl, rfl, fun x hx => by cases hx⟩ (by
        rintro i d e hd ⟨xs, v5, v6, v7, v8, v9, rfl, hl, hb⟩
        obtain ⟨hi, rfl⟩ := rngD_at hd
        obtain ⟨n, w6, w7, w8, w9, hn, hb2⟩ := dated_body ss at' shape i xs v6 v7 v8 v9 hat hsl' hs (by omega)
        refine ⟨_, ?_, xs ++ [n], some (.s, .int i), w6, w7, w8, w9, rfl, by simp [hl], fun y hy => ?_⟩
        · rw [Int.zero_add]
          simp only [tgN, store, kill, List.length_cons, List.length_nil, ss6, ss5, ss4, ss3, ss2, ss1, ss0]
          simpa using hb2
        · rcases List.mem_append.mp hy with hy | hy
          · exact hb y hy
          · have : y = n := by simpa using hy
            subst this
            exact hn)
  rw [rngD_len] at h4
  subst h3
  have hok : okR (1 + nth shape 0 % 8) = true := by simp [okR]; omega
  refine ⟨xs, ?_, by omega, by omega, h5⟩
  unfold m_law_dated runF b_law_dated
  simp -implicitDefEqProofs (disch := omega) [mSeq, mIfS, mTv, mTr, truD, m2, m1, m3, mVar, mC, mCS, mCall, mCons, mNil, rdS, asB, asI, mRet, mRetN, xOf, mSkip, mExp, mSet, mSetF, shareE, mSetT, store, kill, mAnd, mOr, mNot, mAndV, mOrV, mNotV, mIte, mLst, mTup, mApp, pVar, atP, subS, setS, okE, Sh.beq, mPut, mIsN, mNotN, isNon, mIsi, mIsB, mNotB, mSl, oSo, oNo, gSl, elemsL, elemsR, mCL, mCLL, mCIL, mCI, mFrz, mAug, mBrk, mCnt, mPop, mRevL, iSq, iR1, iR2, iEn, iZp, iRv, ownB, wipeE, mYes, gs0, ss0, gs1, ss1, gs2, ss2, gs3, ss3, gs4, ss4, gs5, ss5, gs6, ss6, gs7, ss7, gs8, ss8, gs9, ss9, gs10, ss10, gs11, ss11, gs12, ss12, gs13, ss13, gs14, ss14, gs15, ss15, gs16, ss16, gs17, ss17, gs18, ss18, gs19, ss19, gs20, ss20, gs21, ss21, gs22, ss22, gs23, ss23, gs24, ss24, gs25, ss25, gs26, ss26, gs27, ss27, gs28, ss28, gs29, ss29, add_ii, sub_ii, mod_ii, div_ii, mul_ii, neg_i, lt_ii, le_ii, gt_ii, ge_ii, eq_ii, ne_ii, len_l, len_t, int_i, int_b, R.sha, ix_t0, ix_t1, ix_t2, ix_t3, eq_ss, ne_ss, eq_bb, ne_bb, hc, hm, ix_mS, hz, mFor, hok, h1]
end K56

set_option maxRecDepth 100000
set_option linter.all false
set_option maxHeartbeats 4000000
namespace K56
open PySem M
def oD : Option Nat → D
  | none => .none
  | some k => .int (k : Nat)
structure Told (ns : List Note) (told : List (Option Nat)) (left : List Int) (i : Nat) : Prop where
  tl : told.length = i
  ll : left.length = ns.length
  rng : ∀ m k, m < i → nth told m = some k → k < ns.length ∧ (nth ns k).a ≤ m ∧ (m : Int) < (nth ns k).d
  sum : ∀ k, k < ns.length → nth left k + (told.count (some k) : Nat) = (nth ns k).b
  nn : ∀ k, k < ns.length → 0 ≤ nth left k
  due : ∀ k, k < ns.length → (nth ns k).d < i → nth left k = 0
  edf : ∀ m k, m < i → k < ns.length → (nth ns k).a ≤ m → (∀ j, nth told m = some j → (nth ns k).d < (nth ns j).d) → nth left k = 0 ∧ ∀ m', m ≤ m' → m' < i → nth told m' ≠ some k
theorem told_none {ns : List Note} {told : List (Option Nat)} {left : List Int} {i : Nat} (h : Told ns told left i) (hl : ∀ k, k < ns.length → (nth ns k).d = i → nth left k = 0) (hn : ∀ k, k < ns.length → (nth ns k).a ≤ i → nth left k = 0) : Told ns (told ++ [none]) left (i + 1) where
  tl := by simp [h.tl]
  ll := h.ll
  rng m k hm e := by
    by_cases hm' : m < i
    · rw [nth_app_l (by rw [h.tl]; exact hm')] at e
      exact h.rng m k hm' e
    · rw [nth_app_e (by rw [h.tl]; omega)] at e
      cases e
  sum k hk := by simpa [List.count_append] using h.sum k hk
  nn := h.nn
  due k hk hd := by
    by_cases e : (nth ns k).d = i
    · exact hl k hk e
    · exact h.due k hk (by omega)
  edf m k hm hk ha hj := by
    by_cases hm' : m < i
    · rw [nth_app_l (by rw [h.tl]; exact hm')] at hj
      obtain ⟨h1, h2⟩ := h.edf m k hm' hk ha hj
      refine ⟨h1, fun m' h3 h4 => ?_⟩
      by_cases h5 : m' < i
      · rw [nth_app_l (by rw [h.tl]; exact h5)]
        exact h2 m' h3 h5
      · rw [nth_app_e (by rw [h.tl]; omega)]
        exact fun e => by cases e
    · have : m = i := by omega
      subst this
      refine ⟨hn k hk ha, fun m' h3 h4 => ?_⟩
      rw [nth_app_e (by rw [h.tl]; omega)]
      exact fun e => by cases e
theorem told_some {ns : List Note} {told : List (Option Nat)} {left : List Int} {i j : Nat} (h : Told ns told left i) (hl : ∀ k, k < ns.length → (nth ns k).d = i → nth left k = 0)
    (hj : j < ns.length) (ha : (nth ns j).a ≤ i) (hp : 0 < nth left j) (hm : ∀ k, k < ns.length → (nth ns k).a ≤ i → 0 < nth left k → (nth ns j).d ≤ (nth ns k).d) : Told ns (told ++ [some j]) (left.set j (nth left j - 1)) (i + 1) where
  tl := by simp [h.tl]
  ll := by simp [h.ll]
  rng m k hm e := by
    by_cases hm' : m < i
    · rw [nth_app_l (by rw [h.tl]; exact hm')] at e
      exact h.rng m k hm' e
    · rw [nth_app_e (by rw [h.tl]; omega)] at e
      cases e
      have hm : m = i := by omega
      subst hm
      refine ⟨hj, ha, ?_⟩
      rcases (by omega : (m : Int) < (nth ns j).d ∨ (nth ns j).d = m ∨ (nth ns j).d < m) with q | q | q
      · exact q
      · have := hl j hj q; omega
      · have := h.due j hj q; omega
  sum k hk := by
    have := h.sum k hk
    rw [nth_set (by rw [h.ll]; exact hj), List.count_append]
    by_cases e : j = k
    · subst e
      rw [if_pos rfl]
      simp only [List.count_singleton_self]
      omega
    · rw [if_neg e]
      have : List.count (some k) [some j] = 0 := by
        rw [List.count_singleton]
        simp [e]
      rw [this]
      omega
  nn k hk := by
    rw [nth_set (by rw [h.ll]; exact hj)]
    have := h.nn k hk
    by_cases e : j = k
    · subst e; rw [if_pos rfl]; omega
    · rw [if_neg e]; exact this
  due k hk hd := by
    have : nth left k = 0 := by
      by_cases e : (nth ns k).d = i
      · exact hl k hk e
      · exact h.due k hk (by omega)
    rw [nth_set (by rw [h.ll]; exact hj)]
    by_cases e : j = k
    · subst e; omega
    · rw [if_neg e]; exact this
  edf m k hm1 hk hka hjj := by
    have key : nth left k = 0 ∧ ∀ m', m ≤ m' → m' < i → nth told m' ≠ some k := by
      by_cases hm' : m < i
      · rw [nth_app_l (by rw [h.tl]; exact hm')] at hjj
        exact h.edf m k hm' hk hka hjj
      · have hmi : m = i := by omega
        subst hmi
        rw [nth_app_e (by rw [h.tl])] at hjj
        refine ⟨?_, fun m' h3 h4 => by omega⟩
        have h1 := h.nn k hk
        have h2 := hjj j rfl
        rcases (by omega : nth left k = 0 ∨ 0 < nth left k) with q | q
        · exact q
        · have := hm k hk hka q; omega
    have hkj : j ≠ k := fun e => by subst e; omega
    rw [nth_set (by rw [h.ll]; exact hj), if_neg hkj]
    refine ⟨key.1, fun m' h3 h4 => ?_⟩
    by_cases h5 : m' < i
    · rw [nth_app_l (by rw [h.tl]; exact h5)]
      exact key.2 m' h3 h5
    · rw [nth_app_e (by rw [h.tl]; omega)]
      exact fun e => hkj (by cases e; rfl)
abbrev envT (ns : List Note) (left : List Int) (v2 : Option (Sh × D)) (told : List (Option Nat)) (v4 v5 v6 v7 : Option (Sh × D)) : M.Env := [some (.s, .list (ns.map noteD)), some (.l .s, .list (left.map .int)), v2, some (.l .s, .list (told.map oD)), v4, v5, v6, v7]
theorem rng_map (n : Nat) : rngD 0 n = (List.range n).map fun k : Nat => PyData.int (k : Nat) := by
  rw [rngD_map]; congr 1; funext k; rw [Int.zero_add]
theorem told_body (ns : List Note) (left : List Int) (told : List (Option Nat)) (i : Nat) (v2 v5 v6 v7 : Option (Sh × D)) (h : Told ns told left i) (hn : ns.length ≤ 8) (hi : i < 1000) :
    (∃ told' left' v5' v6' v7', Told ns told' left' (i + 1) ∧ l1_law_told_moments (envT ns left v2 told (some (.s, .int i)) v5 v6 v7) = some (.nx (envT ns left' v2 told' (some (.s, .int i)) v5' v6' v7'))) ∨
    ∃ k, k < ns.length ∧ (nth ns k).d = i ∧ 0 < nth left k ∧ l1_law_told_moments (envT ns left v2 told (some (.s, .int i)) v5 v6 v7) = some (.rt .s (.tuple [.list (told.map oD), .int i])) := by
  have hz : sizeLine = 16777216 := sizeLine_val
  have hll := h.ll
  have htl := h.tl
  have hx' : told.length < 16777216 := by omega
  unfold l1_law_told_moments
  have c1 : mLc (.s) (iR1 (mCS gLen (mCons (mVar 0) (mNil)))) [6] (tgN 6) (mAnd (mTv (m2 (g2S gEq) (m2 gIx (m2 gIx (mVar 0) (mVar 6)) (mC (.int 1))) (mVar 4))) (mTv (m2 gGt (m2 gIx (mVar 1) (mVar 6)) (mC (.int 0))))) (mVar 6) (envT ns left v2 told (some (.s, .int i)) v5 v6 v7)
      = some ⟨.l .s, .list (((List.range ns.length).filter (fun k : Nat => decide ((nth ns k).d = i) && decide (0 < nth left k))).map fun k : Nat => PyData.int (k : Nat)), []⟩ := by
    refine mLc_f (b := false) (fun k : Nat => PyData.int (k : Nat)) (List.range ns.length) _ _ ?_ ?_ ?_
    · have hok : okR (ns.length : Int) = true := by simp [okR]; omega
      simp -implicitDefEqProofs (disch := omega) [mSeq, mIfS, mTv, mTr, truD, m2, m1, m3, mVar, mC, mCS, mCall, mCons, mNil, rdS, asB, asI, mRet, mRetN, xOf, mSkip, mExp, mSet, mSetF, shareE, mSetT, store, kill, mAnd, mOr, mNot, mAndV, mOrV, mNotV, mIte, mLst, mTup, mApp, pVar, atP, subS, setS, okE, Sh.beq, mPut, mIsN, mNotN, isNon, mIsi, mIsB, mNotB, mSl, oSo, oNo, gSl, elemsL, elemsR, mCL, mCLL, mCIL, mCI, mFrz, mAug, mBrk, mCnt, mPop, mRevL, iSq, iR1, iR2, iEn, iZp, iRv, ownB, wipeE, mYes, gs0, ss0, gs1, ss1, gs2, ss2, gs3, ss3, gs4, ss4, gs5, ss5, gs6, ss6, gs7, ss7, gs8, ss8, gs9, ss9, gs10, ss10, gs11, ss11, gs12, ss12, gs13, ss13, gs14, ss14, gs15, ss15, gs16, ss16, gs17, ss17, gs18, ss18, gs19, ss19, gs20, ss20, gs21, ss21, gs22, ss22, gs23, ss23, gs24, ss24, gs25, ss25, gs26, ss26, gs27, ss27, gs28, ss28, gs29, ss29, add_ii, sub_ii, mod_ii, div_ii, mul_ii, neg_i, lt_ii, le_ii, gt_ii, ge_ii, eq_ii, ne_ii, len_l, len_t, int_i, int_b, R.sha, ix_t0, ix_t1, ix_t2, ix_t3, eq_ss, ne_ss, eq_bb, ne_bb, envT, hok, rng_map]
    · rw [List.length_range]; omega
    · intro k hk
      have hk := List.mem_range.mp hk
      refine ⟨_, rfl, ?_, fun _ => ⟨.s, ?_⟩⟩
      · simp -implicitDefEqProofs (disch := omega) [mSeq, mIfS, mTv, mTr, truD, m2, m1, m3, mVar, mC, mCS, mCall, mCons, mNil, rdS, asB, asI, mRet, mRetN, xOf, mSkip, mExp, mSet, mSetF, shareE, mSetT, store, kill, mAnd, mOr, mNot, mAndV, mOrV, mNotV, mIte, mLst, mTup, mApp, pVar, atP, subS, setS, okE, Sh.beq, mPut, mIsN, mNotN, isNon, mIsi, mIsB, mNotB, mSl, oSo, oNo, gSl, elemsL, elemsR, mCL, mCLL, mCIL, mCI, mFrz, mAug, mBrk, mCnt, mPop, mRevL, iSq, iR1, iR2, iEn, iZp, iRv, ownB, wipeE, mYes, gs0, ss0, gs1, ss1, gs2, ss2, gs3, ss3, gs4, ss4, gs5, ss5, gs6, ss6, gs7, ss7, gs8, ss8, gs9, ss9, gs10, ss10, gs11, ss11, gs12, ss12, gs13, ss13, gs14, ss14, gs15, ss15, gs16, ss16, gs17, ss17, gs18, ss18, gs19, ss19, gs20, ss20, gs21, ss21, gs22, ss22, gs23, ss23, gs24, ss24, gs25, ss25, gs26, ss26, gs27, ss27, gs28, ss28, gs29, ss29, add_ii, sub_ii, mod_ii, div_ii, mul_ii, neg_i, lt_ii, le_ii, gt_ii, ge_ii, eq_ii, ne_ii, len_l, len_t, int_i, int_b, R.sha, ix_t0, ix_t1, ix_t2, ix_t3, eq_ss, ne_ss, eq_bb, ne_bb, envT, ix_mS, ix_mL, noteD]
        by_cases q : (nth ns k).d = i <;> simp [q]
      · simp -implicitDefEqProofs (disch := omega) [mSeq, mIfS, mTv, mTr, truD, m2, m1, m3, mVar, mC, mCS, mCall, mCons, mNil, rdS, asB, asI, mRet, mRetN, xOf, mSkip, mExp, mSet, mSetF, shareE, mSetT, store, kill, mAnd, mOr, mNot, mAndV, mOrV, mNotV, mIte, mLst, mTup, mApp, pVar, atP, subS, setS, okE, Sh.beq, mPut, mIsN, mNotN, isNon, mIsi, mIsB, mNotB, mSl, oSo, oNo, gSl, elemsL, elemsR, mCL, mCLL, mCIL, mCI, mFrz, mAug, mBrk, mCnt, mPop, mRevL, iSq, iR1, iR2, iEn, iZp, iRv, ownB, wipeE, mYes, gs0, ss0, gs1, ss1, gs2, ss2, gs3, ss3, gs4, ss4, gs5, ss5, gs6, ss6, gs7, ss7, gs8, ss8, gs9, ss9, gs10, ss10, gs11, ss11, gs12, ss12, gs13, ss13, gs14, ss14, gs15, ss15, gs16, ss16, gs17, ss17, gs18, ss18, gs19, ss19, gs20, ss20, gs21, ss21, gs22, ss22, gs23, ss23, gs24, ss24, gs25, ss25, gs26, ss26, gs27, ss27, gs28, ss28, gs29, ss29, add_ii, sub_ii, mod_ii, div_ii, mul_ii, neg_i, lt_ii, le_ii, gt_ii, ge_ii, eq_ii, ne_ii, len_l, len_t, int_i, int_b, R.sha, ix_t0, ix_t1, ix_t2, ix_t3, eq_ss, ne_ss, eq_bb, ne_bb, envT]
  have c2 : ∀ v5, mLc (.s) (iR1 (mCS gLen (mCons (mVar 0) (mNil)))) [6] (tgN 6) (mAnd (mTv (m2 gLe (m2 gIx (m2 gIx (mVar 0) (mVar 6)) (mC (.int 0))) (mVar 4))) (mTv (m2 gGt (m2 gIx (mVar 1) (mVar 6)) (mC (.int 0))))) (mTup (mCons (m2 gIx (m2 gIx (mVar 0) (mVar 6)) (mC (.int 1))) (mCons (mVar 6) (mNil)))) (envT ns left v2 told (some (.s, .int i)) v5 v6 v7)
      = some ⟨.l .s, .list ((((List.range ns.length).filter (fun k : Nat => decide ((nth ns k).a ≤ i) && decide (0 < nth left k))).map fun k : Nat => ((nth ns k).d, (k : Int))).map pairD), []⟩ := by
    intro v5
    rw [List.map_map]
    refine mLc_f (b := false) (fun k : Nat => PyData.int (k : Nat)) (List.range ns.length) _ _ ?_ ?_ ?_
    · have hok : okR (ns.length : Int) = true := by simp [okR]; omega
      simp -implicitDefEqProofs (disch := omega) [mSeq, mIfS, mTv, mTr, truD, m2, m1, m3, mVar, mC, mCS, mCall, mCons, mNil, rdS, asB, asI, mRet, mRetN, xOf, mSkip, mExp, mSet, mSetF, shareE, mSetT, store, kill, mAnd, mOr, mNot, mAndV, mOrV, mNotV, mIte, mLst, mTup, mApp, pVar, atP, subS, setS, okE, Sh.beq, mPut, mIsN, mNotN, isNon, mIsi, mIsB, mNotB, mSl, oSo, oNo, gSl, elemsL, elemsR, mCL, mCLL, mCIL, mCI, mFrz, mAug, mBrk, mCnt, mPop, mRevL, iSq, iR1, iR2, iEn, iZp, iRv, ownB, wipeE, mYes, gs0, ss0, gs1, ss1, gs2, ss2, gs3, ss3, gs4, ss4, gs5, ss5, gs6, ss6, gs7, ss7, gs8, ss8, gs9, ss9, gs10, ss10, gs11, ss11, gs12, ss12, gs13, ss13, gs14, ss14, gs15, ss15, gs16, ss16, gs17, ss17, gs18, ss18, gs19, ss19, gs20, ss20, gs21, ss21, gs22, ss22, gs23, ss23, gs24, ss24, gs25, ss25, gs26, ss26, gs27, ss27, gs28, ss28, gs29, ss29, add_ii, sub_ii, mod_ii, div_ii, mul_ii, neg_i, lt_ii, le_ii, gt_ii, ge_ii, eq_ii, ne_ii, len_l, len_t, int_i, int_b, R.sha, ix_t0, ix_t1, ix_t2, ix_t3, eq_ss, ne_ss, eq_bb, ne_bb, envT, hok, rng_map]
    · rw [List.length_range]; omega
    · intro k hk
      have hk := List.mem_range.mp hk
      refine ⟨_, rfl, ?_, fun _ => ⟨.s, ?_⟩⟩
      · simp -implicitDefEqProofs (disch := omega) [mSeq, mIfS, mTv, mTr, truD, m2, m1, m3, mVar, mC, mCS, mCall, mCons, mNil, rdS, asB, asI, mRet, mRetN, xOf, mSkip, mExp, mSet, mSetF, shareE, mSetT, store, kill, mAnd, mOr, mNot, mAndV, mOrV, mNotV, mIte, mLst, mTup, mApp, pVar, atP, subS, setS, okE, Sh.beq, mPut, mIsN, mNotN, isNon, mIsi, mIsB, mNotB, mSl, oSo, oNo, gSl, elemsL, elemsR, mCL, mCLL, mCIL, mCI, mFrz, mAug, mBrk, mCnt, mPop, mRevL, iSq, iR1, iR2, iEn, iZp, iRv, ownB, wipeE, mYes, gs0, ss0, gs1, ss1, gs2, ss2, gs3, ss3, gs4, ss4, gs5, ss5, gs6, ss6, gs7, ss7, gs8, ss8, gs9, ss9, gs10, ss10, gs11, ss11, gs12, ss12, gs13, ss13, gs14, ss14, gs15, ss15, gs16, ss16, gs17, ss17, gs18, ss18, gs19, ss19, gs20, ss20, gs21, ss21, gs22, ss22, gs23, ss23, gs24, ss24, gs25, ss25, gs26, ss26, gs27, ss27, gs28, ss28, gs29, ss29, add_ii, sub_ii, mod_ii, div_ii, mul_ii, neg_i, lt_ii, le_ii, gt_ii, ge_ii, eq_ii, ne_ii, len_l, len_t, int_i, int_b, R.sha, ix_t0, ix_t1, ix_t2, ix_t3, eq_ss, ne_ss, eq_bb, ne_bb, envT, ix_mS, ix_mL, noteD]
        by_cases q : (nth ns k).a ≤ i <;> simp [q]
      · simp -implicitDefEqProofs (disch := omega) [mSeq, mIfS, mTv, mTr, truD, m2, m1, m3, mVar, mC, mCS, mCall, mCons, mNil, rdS, asB, asI, mRet, mRetN, xOf, mSkip, mExp, mSet, mSetF, shareE, mSetT, store, kill, mAnd, mOr, mNot, mAndV, mOrV, mNotV, mIte, mLst, mTup, mApp, pVar, atP, subS, setS, okE, Sh.beq, mPut, mIsN, mNotN, isNon, mIsi, mIsB, mNotB, mSl, oSo, oNo, gSl, elemsL, elemsR, mCL, mCLL, mCIL, mCI, mFrz, mAug, mBrk, mCnt, mPop, mRevL, iSq, iR1, iR2, iEn, iZp, iRv, ownB, wipeE, mYes, gs0, ss0, gs1, ss1, gs2, ss2, gs3, ss3, gs4, ss4, gs5, ss5, gs6, ss6, gs7, ss7, gs8, ss8, gs9, ss9, gs10, ss10, gs11, ss11, gs12, ss12, gs13, ss13, gs14, ss14, gs15, ss15, gs16, ss16, gs17, ss17, gs18, ss18, gs19, ss19, gs20, ss20, gs21, ss21, gs22, ss22, gs23, ss23, gs24, ss24, gs25, ss25, gs26, ss26, gs27, ss27, gs28, ss28, gs29, ss29, add_ii, sub_ii, mod_ii, div_ii, mul_ii, neg_i, lt_ii, le_ii, gt_ii, ge_ii, eq_ii, ne_ii, len_l, len_t, int_i, int_b, R.sha, ix_t0, ix_t1, ix_t2, ix_t3, eq_ss, ne_ss, eq_bb, ne_bb, envT, ix_mS, ix_mL, noteD, pairD, Function.comp]
  generalize hA : (List.range ns.length).filter (fun k : Nat => decide ((nth ns k).d = i) && decide (0 < nth left k)) = A at c1
  generalize hB : (List.range ns.length).filter (fun k : Nat => decide ((nth ns k).a ≤ i) && decide (0 < nth left k)) = B at c2
  have memA : ∀ k, k ∈ A ↔ k < ns.length ∧ (nth ns k).d = i ∧ 0 < nth left k := by
    intro k; rw [← hA, List.mem_filter, List.mem_range]; simp
  have memB : ∀ k, k ∈ B ↔ k < ns.length ∧ (nth ns k).a ≤ i ∧ 0 < nth left k := by
    intro k; rw [← hB, List.mem_filter, List.mem_range]; simp
  have lenB : B.length ≤ 8 := by
    rw [← hB]
    exact Nat.le_trans (List.length_filter_le _ _) (by rw [List.length_range]; exact hn)
  simp only [envT] at c1 c2
  by_cases hlate : 0 < A.length
  · right
    refine ⟨A[0], ((memA _).mp (List.getElem_mem hlate)).1, ((memA _).mp (List.getElem_mem hlate)).2.1, ((memA _).mp (List.getElem_mem hlate)).2.2, ?_⟩
    simp -implicitDefEqProofs (disch := omega) [mSeq, mIfS, mTv, mTr, truD, m2, m1, m3, mVar, mC, mCS, mCall, mCons, mNil, rdS, asB, asI, mRet, mRetN, xOf, mSkip, mExp, mSet, mSetF, shareE, mSetT, store, kill, mAnd, mOr, mNot, mAndV, mOrV, mNotV, mIte, mLst, mTup, mApp, pVar, atP, subS, setS, okE, Sh.beq, mPut, mIsN, mNotN, isNon, mIsi, mIsB, mNotB, mSl, oSo, oNo, gSl, elemsL, elemsR, mCL, mCLL, mCIL, mCI, mFrz, mAug, mBrk, mCnt, mPop, mRevL, iSq, iR1, iR2, iEn, iZp, iRv, ownB, wipeE, mYes, gs0, ss0, gs1, ss1, gs2, ss2, gs3, ss3, gs4, ss4, gs5, ss5, gs6, ss6, gs7, ss7, gs8, ss8, gs9, ss9, gs10, ss10, gs11, ss11, gs12, ss12, gs13, ss13, gs14, ss14, gs15, ss15, gs16, ss16, gs17, ss17, gs18, ss18, gs19, ss19, gs20, ss20, gs21, ss21, gs22, ss22, gs23, ss23, gs24, ss24, gs25, ss25, gs26, ss26, gs27, ss27, gs28, ss28, gs29, ss29, add_ii, sub_ii, mod_ii, div_ii, mul_ii, neg_i, lt_ii, le_ii, gt_ii, ge_ii, eq_ii, ne_ii, len_l, len_t, int_i, int_b, R.sha, ix_t0, ix_t1, ix_t2, ix_t3, eq_ss, ne_ss, eq_bb, ne_bb, envT, c1, hlate]
  · left
    have hA0 : A = [] := List.eq_nil_of_length_eq_zero (by omega)
    have hl : ∀ k, k < ns.length → (nth ns k).d = i → nth left k = 0 := by
      intro k hk hd
      have h1 := h.nn k hk
      rcases (by omega : nth left k = 0 ∨ 0 < nth left k) with q | q
      · exact q
      · have := (memA k).mpr ⟨hk, hd, q⟩
        rw [hA0] at this; cases this
    obtain ⟨ys, s1, s2, s3, s4⟩ := gSort_pairs (B.map fun k : Nat => ((nth ns k).d, (k : Int))) (by rw [List.length_map]; omega)
    rw [List.map_map] at s1
    cases ys with
    | nil =>
      have hB0 : B = [] := List.eq_nil_of_length_eq_zero (by rw [List.length_map] at s2; exact s2.symm)
      refine ⟨told ++ [none], left, ?_⟩
      iterate 3 apply Exists.intro
      refine ⟨told_none h hl ?_, ?_⟩
      · intro k hk ha
        have h1 := h.nn k hk
        rcases (by omega : nth left k = 0 ∨ 0 < nth left k) with q | q
        · exact q
        · have := (memB k).mpr ⟨hk, ha, q⟩
          rw [hB0] at this; cases this
      · simp -implicitDefEqProofs (disch := omega) [mSeq, mIfS, mTv, mTr, truD, m2, m1, m3, mVar, mC, mCS, mCall, mCons, mNil, rdS, asB, asI, mRet, mRetN, xOf, mSkip, mExp, mSet, mSetF, shareE, mSetT, store, kill, mAnd, mOr, mNot, mAndV, mOrV, mNotV, mIte, mLst, mTup, mApp, pVar, atP, subS, setS, okE, Sh.beq, mPut, mIsN, mNotN, isNon, mIsi, mIsB, mNotB, mSl, oSo, oNo, gSl, elemsL, elemsR, mCL, mCLL, mCIL, mCI, mFrz, mAug, mBrk, mCnt, mPop, mRevL, iSq, iR1, iR2, iEn, iZp, iRv, ownB, wipeE, mYes, gs0, ss0, gs1, ss1, gs2, ss2, gs3, ss3, gs4, ss4, gs5, ss5, gs6, ss6, gs7, ss7, gs8, ss8, gs9, ss9, gs10, ss10, gs11, ss11, gs12, ss12, gs13, ss13, gs14, ss14, gs15, ss15, gs16, ss16, gs17, ss17, gs18, ss18, gs19, ss19, gs20, ss20, gs21, ss21, gs22, ss22, gs23, ss23, gs24, ss24, gs25, ss25, gs26, ss26, gs27, ss27, gs28, ss28, gs29, ss29, add_ii, sub_ii, mod_ii, div_ii, mul_ii, neg_i, lt_ii, le_ii, gt_ii, ge_ii, eq_ii, ne_ii, len_l, len_t, int_i, int_b, R.sha, ix_t0, ix_t1, ix_t2, ix_t3, eq_ss, ne_ss, eq_bb, ne_bb, envT, c1, hA0, c2, s1, hz, hx', oD]
        exact ⟨rfl, rfl, rfl⟩
    | cons y ys =>
      have hy := (s3 y).mp List.mem_cons_self
      rw [List.mem_map] at hy
      obtain ⟨j, hj, rfl⟩ := hy
      obtain ⟨j1, j2, j3⟩ := (memB j).mp hj
      refine ⟨told ++ [some j], left.set j (nth left j - 1), ?_⟩
      iterate 3 apply Exists.intro
      refine ⟨told_some h hl j1 j2 j3 ?_, ?_⟩
      · intro k hk ha hp
        exact s4 _ rfl ((nth ns k).d, (k : Int)) (List.mem_map.mpr ⟨k, (memB k).mpr ⟨hk, ha, hp⟩, rfl⟩)
      · have e0 : gIx ⟨.s, .list (((((nth ns j).d, (j : Int)) :: ys)).map pairD), []⟩ ⟨.s, .int 0, []⟩ = some ⟨.s, pairD ((nth ns j).d, (j : Int)), []⟩ := ix_sl _ _ _ _ _ _ (by decide) rfl
        have e1 : L2.ixN left.length (j : Int) = some j := by
          unfold L2.ixN; rw [if_pos (by omega), if_pos (by omega)]; rfl
        simp -implicitDefEqProofs (disch := omega) [mSeq, mIfS, mTv, mTr, truD, m2, m1, m3, mVar, mC, mCS, mCall, mCons, mNil, rdS, asB, asI, mRet, mRetN, xOf, mSkip, mExp, mSet, mSetF, shareE, mSetT, store, kill, mAnd, mOr, mNot, mAndV, mOrV, mNotV, mIte, mLst, mTup, mApp, pVar, atP, subS, setS, okE, Sh.beq, mPut, mIsN, mNotN, isNon, mIsi, mIsB, mNotB, mSl, oSo, oNo, gSl, elemsL, elemsR, mCL, mCLL, mCIL, mCI, mFrz, mAug, mBrk, mCnt, mPop, mRevL, iSq, iR1, iR2, iEn, iZp, iRv, ownB, wipeE, mYes, gs0, ss0, gs1, ss1, gs2, ss2, gs3, ss3, gs4, ss4, gs5, ss5, gs6, ss6, gs7, ss7, gs8, ss8, gs9, ss9, gs10, ss10, gs11, ss11, gs12, ss12, gs13, ss13, gs14, ss14, gs15, ss15, gs16, ss16, gs17, ss17, gs18, ss18, gs19, ss19, gs20, ss20, gs21, ss21, gs22, ss22, gs23, ss23, gs24, ss24, gs25, ss25, gs26, ss26, gs27, ss27, gs28, ss28, gs29, ss29, add_ii, sub_ii, mod_ii, div_ii, mul_ii, neg_i, lt_ii, le_ii, gt_ii, ge_ii, eq_ii, ne_ii, len_l, len_t, int_i, int_b, R.sha, ix_t0, ix_t1, ix_t2, ix_t3, eq_ss, ne_ss, eq_bb, ne_bb, envT, c1, hA0, c2, s1, hz, hx', oD, e0, e1, pairD, ix_mL, ix_l0, List.map_set]
        exact ⟨rfl, rfl, rfl⟩
end K56

set_option maxRecDepth 100000
set_option linter.all false
set_option maxHeartbeats 4000000
namespace K56
open PySem M
def lateD : Option Nat → D
  | none => .none
  | some k => .int (k : Nat)
def TM (ns : List Note) (told : List (Option Nat)) (late : Option Nat) : Prop := ∃ left i, Told ns told left i ∧ i ≤ 200 ∧ match late with
  | none => ∀ k, k < ns.length → nth left k = 0
  | some t => i = t ∧ ∃ k, k < ns.length ∧ (nth ns k).d = t ∧ 0 < nth left k
theorem good_nth {ns : List Note} (h : GoodNs ns) {k : Nat} (hk : k < ns.length) : GoodN (nth ns k) := h.2.2 _ (nth_mem hk)
theorem maxd_b {ns : List Note} (h : GoodNs ns) : 0 < maxI (ns.map Note.d) ∧ maxI (ns.map Note.d) ≤ 100 := by
  have hl : 0 < (ns.map Note.d).length := by rw [List.length_map]; exact h.1
  obtain ⟨n, hn, e⟩ := List.mem_map.mp (maxI_mem hl)
  have := h.2.2 n hn
  unfold GoodN at this
  omega
theorem told_loop (ns : List Note) (h : GoodNs ns) (N : Nat) (hN : N ≤ 101) : 
    (∃ e', forL (fun d e => (tgN 4 e d).bind l1_law_told_moments) (rngD 0 N) (envT ns (ns.map Note.b) none [] none none none none) = some (.nx e') ∧ (∃ left told v4 v5 v6 v7, e' = envT ns left none told v4 v5 v6 v7 ∧ Told ns told left N)) ∨
    (∃ s r, forL (fun d e => (tgN 4 e d).bind l1_law_told_moments) (rngD 0 N) (envT ns (ns.map Note.b) none [] none none none none) = some (.rt s r) ∧ s = .s ∧ ∃ told left t, r = .tuple [.list (told.map oD), .int (t : Nat)] ∧ Told ns told left t ∧ t ≤ 200 ∧ ∃ k, k < ns.length ∧ (nth ns k).d = t ∧ 0 < nth left k) := by
  have hn8 := h.2.1
  have loop := forL_inv' (b := fun d e => (tgN 4 e d).bind l1_law_told_moments) (ds := rngD 0 N) (env := envT ns (ns.map Note.b) none [] none none none none)
    (fun i e => ∃ left told v4 v5 v6 v7, e = envT ns left none told v4 v5 v6 v7 ∧ Told ns told left i)
    (fun s r => s = .s ∧ ∃ told left t, r = .tuple [.list (told.map oD), .int (t : Nat)] ∧ Told ns told left t ∧ t ≤ 200 ∧ ∃ k, k < ns.length ∧ (nth ns k).d = t ∧ 0 < nth left k)
    (fun _ => False)
    ⟨ns.map Note.b, [], none, none, none, none, rfl, {
      tl := rfl
      ll := by simp
      rng := fun m k hm => by omega
      sum := fun k hk => by rw [nth_map hk]; simp
      nn := fun k hk => by
        have := good_nth h hk
        unfold GoodN at this
        rw [nth_map hk]; omega
      due := fun k hk hd => by
        have := good_nth h hk
        unfold GoodN at this
        omega
      edf := fun m k hm => by omega }⟩
    (by
      rintro i d e hd' ⟨left, told, v4, v5, v6, v7, rfl, hT⟩
      obtain ⟨hi, rfl⟩ := rngD_at hd'
      rw [Int.zero_add]
      have hs : (tgN 4 (envT ns left none told v4 v5 v6 v7) (.int i)).bind l1_law_told_moments = l1_law_told_moments (envT ns left none told (some (.s, .int i)) v5 v6 v7) := tgN_bind (by decide : 4 < 8)
      rcases told_body ns left told i none v5 v6 v7 hT hn8 (by omega) with ⟨told', left', w5, w6, w7, hT', e1⟩ | ⟨k, hk, hk1, hk2, e1⟩
      · exact .inl ⟨_, .inl (hs.trans e1), left', told', some (.s, .int i), w5, w6, w7, rfl, hT'⟩
      · exact .inr (.inl ⟨.s, _, hs.trans e1, rfl, told, left, i, rfl, hT, by omega, k, hk, hk1, hk2⟩))
  rw [rngD_len] at loop
  rcases loop with ⟨e', h1, h2⟩ | h2
  · rcases h2 with h2 | h2
    · exact .inl ⟨e', h1, h2⟩
    · exact h2.elim
  · exact .inr h2
theorem told_ok (ns : List Note) (h : GoodNs ns) : ∃ told late, m_law_told_moments [.list (ns.map noteD)] = some (.s, .tuple [.list (told.map oD), lateD late]) ∧ TM ns told late := by
  have hn8 := h.2.1
  have hn1 := h.1
  have hd := maxd_b h
  have hok : okR (maxI (ns.map Note.d) + 1) = true := by simp [okR]; omega
  have loop := told_loop ns h (maxI (ns.map Note.d) + 1).toNat (by omega)
  have c1 : mLc (.s) (iSq (mVar 0)) [2] (tgN 2) (mYes) (m2 gIx (mVar 2) (mC (.int 2))) [some (.s, .list (ns.map noteD)), none, none, none, none, none, none, none] = some ⟨.l .s, .list (ns.map (PyData.int ∘ Note.b)), []⟩ := by
    refine mLc_a (b := false) noteD ns _ ?_ (by omega) ?_
    · simp -implicitDefEqProofs (disch := omega) [mSeq, mIfS, mTv, mTr, truD, m2, m1, m3, mVar, mC, mCS, mCall, mCons, mNil, rdS, asB, asI, mRet, mRetN, xOf, mSkip, mExp, mSet, mSetF, shareE, mSetT, store, kill, mAnd, mOr, mNot, mAndV, mOrV, mNotV, mIte, mLst, mTup, mApp, pVar, atP, subS, setS, okE, Sh.beq, mPut, mIsN, mNotN, isNon, mIsi, mIsB, mNotB, mSl, oSo, oNo, gSl, elemsL, elemsR, mCL, mCLL, mCIL, mCI, mFrz, mAug, mBrk, mCnt, mPop, mRevL, iSq, iR1, iR2, iEn, iZp, iRv, ownB, wipeE, mYes, gs0, ss0, gs1, ss1, gs2, ss2, gs3, ss3, gs4, ss4, gs5, ss5, gs6, ss6, gs7, ss7, gs8, ss8, gs9, ss9, gs10, ss10, gs11, ss11, gs12, ss12, gs13, ss13, gs14, ss14, gs15, ss15, gs16, ss16, gs17, ss17, gs18, ss18, gs19, ss19, gs20, ss20, gs21, ss21, gs22, ss22, gs23, ss23, gs24, ss24, gs25, ss25, gs26, ss26, gs27, ss27, gs28, ss28, gs29, ss29, add_ii, sub_ii, mod_ii, div_ii, mul_ii, neg_i, lt_ii, le_ii, gt_ii, ge_ii, eq_ii, ne_ii, len_l, len_t, int_i, int_b, R.sha, ix_t0, ix_t1, ix_t2, ix_t3, eq_ss, ne_ss, eq_bb, ne_bb, ]
    · intro n hn
      refine ⟨_, rfl, .s, ?_⟩
      simp -implicitDefEqProofs (disch := omega) [mSeq, mIfS, mTv, mTr, truD, m2, m1, m3, mVar, mC, mCS, mCall, mCons, mNil, rdS, asB, asI, mRet, mRetN, xOf, mSkip, mExp, mSet, mSetF, shareE, mSetT, store, kill, mAnd, mOr, mNot, mAndV, mOrV, mNotV, mIte, mLst, mTup, mApp, pVar, atP, subS, setS, okE, Sh.beq, mPut, mIsN, mNotN, isNon, mIsi, mIsB, mNotB, mSl, oSo, oNo, gSl, elemsL, elemsR, mCL, mCLL, mCIL, mCI, mFrz, mAug, mBrk, mCnt, mPop, mRevL, iSq, iR1, iR2, iEn, iZp, iRv, ownB, wipeE, mYes, gs0, ss0, gs1, ss1, gs2, ss2, gs3, ss3, gs4, ss4, gs5, ss5, gs6, ss6, gs7, ss7, gs8, ss8, gs9, ss9, gs10, ss10, gs11, ss11, gs12, ss12, gs13, ss13, gs14, ss14, gs15, ss15, gs16, ss16, gs17, ss17, gs18, ss18, gs19, ss19, gs20, ss20, gs21, ss21, gs22, ss22, gs23, ss23, gs24, ss24, gs25, ss25, gs26, ss26, gs27, ss27, gs28, ss28, gs29, ss29, add_ii, sub_ii, mod_ii, div_ii, mul_ii, neg_i, lt_ii, le_ii, gt_ii, ge_ii, eq_ii, ne_ii, len_l, len_t, int_i, int_b, R.sha, ix_t0, ix_t1, ix_t2, ix_t3, eq_ss, ne_ss, eq_bb, ne_bb, noteD]
  have c2 : mLc (.s) (iSq (mVar 0)) [2] (tgN 2) (mYes) (m2 gIx (mVar 2) (mC (.int 1))) (envT ns (ns.map Note.b) none [] none none none none) = some ⟨.l .s, .list (ns.map fun n => PyData.int n.d), []⟩ := by
    refine mLc_a (b := false) noteD ns _ ?_ (by omega) ?_
    · simp -implicitDefEqProofs (disch := omega) [mSeq, mIfS, mTv, mTr, truD, m2, m1, m3, mVar, mC, mCS, mCall, mCons, mNil, rdS, asB, asI, mRet, mRetN, xOf, mSkip, mExp, mSet, mSetF, shareE, mSetT, store, kill, mAnd, mOr, mNot, mAndV, mOrV, mNotV, mIte, mLst, mTup, mApp, pVar, atP, subS, setS, okE, Sh.beq, mPut, mIsN, mNotN, isNon, mIsi, mIsB, mNotB, mSl, oSo, oNo, gSl, elemsL, elemsR, mCL, mCLL, mCIL, mCI, mFrz, mAug, mBrk, mCnt, mPop, mRevL, iSq, iR1, iR2, iEn, iZp, iRv, ownB, wipeE, mYes, gs0, ss0, gs1, ss1, gs2, ss2, gs3, ss3, gs4, ss4, gs5, ss5, gs6, ss6, gs7, ss7, gs8, ss8, gs9, ss9, gs10, ss10, gs11, ss11, gs12, ss12, gs13, ss13, gs14, ss14, gs15, ss15, gs16, ss16, gs17, ss17, gs18, ss18, gs19, ss19, gs20, ss20, gs21, ss21, gs22, ss22, gs23, ss23, gs24, ss24, gs25, ss25, gs26, ss26, gs27, ss27, gs28, ss28, gs29, ss29, add_ii, sub_ii, mod_ii, div_ii, mul_ii, neg_i, lt_ii, le_ii, gt_ii, ge_ii, eq_ii, ne_ii, len_l, len_t, int_i, int_b, R.sha, ix_t0, ix_t1, ix_t2, ix_t3, eq_ss, ne_ss, eq_bb, ne_bb, ]
    · intro n hn
      refine ⟨_, rfl, .s, ?_⟩
      simp -implicitDefEqProofs (disch := omega) [mSeq, mIfS, mTv, mTr, truD, m2, m1, m3, mVar, mC, mCS, mCall, mCons, mNil, rdS, asB, asI, mRet, mRetN, xOf, mSkip, mExp, mSet, mSetF, shareE, mSetT, store, kill, mAnd, mOr, mNot, mAndV, mOrV, mNotV, mIte, mLst, mTup, mApp, pVar, atP, subS, setS, okE, Sh.beq, mPut, mIsN, mNotN, isNon, mIsi, mIsB, mNotB, mSl, oSo, oNo, gSl, elemsL, elemsR, mCL, mCLL, mCIL, mCI, mFrz, mAug, mBrk, mCnt, mPop, mRevL, iSq, iR1, iR2, iEn, iZp, iRv, ownB, wipeE, mYes, gs0, ss0, gs1, ss1, gs2, ss2, gs3, ss3, gs4, ss4, gs5, ss5, gs6, ss6, gs7, ss7, gs8, ss8, gs9, ss9, gs10, ss10, gs11, ss11, gs12, ss12, gs13, ss13, gs14, ss14, gs15, ss15, gs16, ss16, gs17, ss17, gs18, ss18, gs19, ss19, gs20, ss20, gs21, ss21, gs22, ss22, gs23, ss23, gs24, ss24, gs25, ss25, gs26, ss26, gs27, ss27, gs28, ss28, gs29, ss29, add_ii, sub_ii, mod_ii, div_ii, mul_ii, neg_i, lt_ii, le_ii, gt_ii, ge_ii, eq_ii, ne_ii, len_l, len_t, int_i, int_b, R.sha, ix_t0, ix_t1, ix_t2, ix_t3, eq_ss, ne_ss, eq_bb, ne_bb, noteD]
  have c3 := gMax_f Note.d ns (by omega)
  simp only [envT, List.map_map, List.map_nil] at c2 loop
  have hM : ∀ k, k < ns.length → (nth ns k).d ≤ maxI (ns.map Note.d) := fun k hk => maxI_le (List.mem_map.mpr ⟨_, nth_mem hk, rfl⟩)
  generalize (maxI (ns.map Note.d)) = M at *
  rcases loop with ⟨e', h1, left, told, v4, v5, v6, v7, rfl, hT⟩ | ⟨s, r, h1, rfl, told, left, t, rfl, hT, ht, hk⟩
  · refine ⟨told, none, ?_, left, _, hT, by omega, fun k hk => ?_⟩
    · unfold m_law_told_moments runF b_law_told_moments
      simp -implicitDefEqProofs (disch := omega) [mSeq, mIfS, mTv, mTr, truD, m2, m1, m3, mVar, mC, mCS, mCall, mCons, mNil, rdS, asB, asI, mRet, mRetN, xOf, mSkip, mExp, mSet, mSetF, shareE, mSetT, store, kill, mAnd, mOr, mNot, mAndV, mOrV, mNotV, mIte, mLst, mTup, mApp, pVar, atP, subS, setS, okE, Sh.beq, mPut, mIsN, mNotN, isNon, mIsi, mIsB, mNotB, mSl, oSo, oNo, gSl, elemsL, elemsR, mCL, mCLL, mCIL, mCI, mFrz, mAug, mBrk, mCnt, mPop, mRevL, iSq, iR1, iR2, iEn, iZp, iRv, ownB, wipeE, mYes, gs0, ss0, gs1, ss1, gs2, ss2, gs3, ss3, gs4, ss4, gs5, ss5, gs6, ss6, gs7, ss7, gs8, ss8, gs9, ss9, gs10, ss10, gs11, ss11, gs12, ss12, gs13, ss13, gs14, ss14, gs15, ss15, gs16, ss16, gs17, ss17, gs18, ss18, gs19, ss19, gs20, ss20, gs21, ss21, gs22, ss22, gs23, ss23, gs24, ss24, gs25, ss25, gs26, ss26, gs27, ss27, gs28, ss28, gs29, ss29, add_ii, sub_ii, mod_ii, div_ii, mul_ii, neg_i, lt_ii, le_ii, gt_ii, ge_ii, eq_ii, ne_ii, len_l, len_t, int_i, int_b, R.sha, ix_t0, ix_t1, ix_t2, ix_t3, eq_ss, ne_ss, eq_bb, ne_bb, c1, c2, c3, mFor, hok, h1, lateD]
    · exact hT.due k hk (by have := hM k hk; omega)
  · refine ⟨told, some t, ?_, left, t, hT, ht, rfl, hk⟩
    unfold m_law_told_moments runF b_law_told_moments
    simp -implicitDefEqProofs (disch := omega) [mSeq, mIfS, mTv, mTr, truD, m2, m1, m3, mVar, mC, mCS, mCall, mCons, mNil, rdS, asB, asI, mRet, mRetN, xOf, mSkip, mExp, mSet, mSetF, shareE, mSetT, store, kill, mAnd, mOr, mNot, mAndV, mOrV, mNotV, mIte, mLst, mTup, mApp, pVar, atP, subS, setS, okE, Sh.beq, mPut, mIsN, mNotN, isNon, mIsi, mIsB, mNotB, mSl, oSo, oNo, gSl, elemsL, elemsR, mCL, mCLL, mCIL, mCI, mFrz, mAug, mBrk, mCnt, mPop, mRevL, iSq, iR1, iR2, iEn, iZp, iRv, ownB, wipeE, mYes, gs0, ss0, gs1, ss1, gs2, ss2, gs3, ss3, gs4, ss4, gs5, ss5, gs6, ss6, gs7, ss7, gs8, ss8, gs9, ss9, gs10, ss10, gs11, ss11, gs12, ss12, gs13, ss13, gs14, ss14, gs15, ss15, gs16, ss16, gs17, ss17, gs18, ss18, gs19, ss19, gs20, ss20, gs21, ss21, gs22, ss22, gs23, ss23, gs24, ss24, gs25, ss25, gs26, ss26, gs27, ss27, gs28, ss28, gs29, ss29, add_ii, sub_ii, mod_ii, div_ii, mul_ii, neg_i, lt_ii, le_ii, gt_ii, ge_ii, eq_ii, ne_ii, len_l, len_t, int_i, int_b, R.sha, ix_t0, ix_t1, ix_t2, ix_t3, eq_ss, ne_ss, eq_bb, ne_bb, c1, c2, c3, mFor, hok, h1, lateD]
end K56

set_option maxRecDepth 100000
set_option linter.all false
set_option maxHeartbeats 4000000
namespace K56
open PySem M
structure Piece where
  n : Int
  b : Int
  e : Int
  deriving DecidableEq, Inhabited
def pieceD (p : Piece) : D := .tuple [.int p.n, .int p.b, .int p.e]
def heard (k : Int) (ps : List Piece) : Int := (ps.map fun p => if p.n = k then p.e - p.b else 0).sum
theorem heard_app (k : Int) (ps qs : List Piece) : heard k (ps ++ qs) = heard k ps + heard k qs := by
  unfold heard; rw [List.map_append, List.sum_append]
theorem heard_one (k : Int) (p : Piece) : heard k [p] = if p.n = k then p.e - p.b else 0 := by
  unfold heard; simp
structure Pcs (told : List (Option Nat)) (ps : List Piece) (i : Nat) : Prop where
  len : ps.length ≤ i
  ok : ∀ p ∈ ps, ∃ k : Nat, p.n = k ∧ 0 ≤ p.b ∧ p.b < p.e ∧ p.e ≤ i ∧ ∀ m : Nat, p.b ≤ m → m < p.e → nth told m = some k
  ord : ∀ j, j + 1 < ps.length → (nth ps j).e ≤ (nth ps (j + 1)).b
  cnt : ∀ k : Nat, heard k ps = ((told.take i).count (some k) : Nat)
theorem take_succ_cnt {told : List (Option Nat)} {i : Nat} (h : i < told.length) (x : Option Nat) : (told.take (i + 1)).count x = (told.take i).count x + if nth told i = x then 1 else 0 := by
  rw [List.take_succ, nth_get h, List.count_append, Option.toList_some, List.count_singleton]
  by_cases e : nth told i = x <;> simp [e]
theorem pcs_none {told : List (Option Nat)} {ps : List Piece} {i : Nat} (h : Pcs told ps i) (hi : i < told.length) (e : nth told i = none) : Pcs told ps (i + 1) where
  len := Nat.le_succ_of_le h.len
  ok p hp := by
    obtain ⟨k, h1, h2, h3, h4, h5⟩ := h.ok p hp
    exact ⟨k, h1, h2, h3, by omega, h5⟩
  ord := h.ord
  cnt k := by
    rw [h.cnt k, take_succ_cnt hi, e, if_neg (by simp)]; rfl
theorem pcs_new {told : List (Option Nat)} {ps : List Piece} {i k : Nat} (h : Pcs told ps i) (hi : i < told.length) (e : nth told i = some k) : Pcs told (ps ++ [⟨k, i, i + 1⟩]) (i + 1) where
  len := by have := h.len; simp; omega
  ok p hp := by
    rcases List.mem_append.mp hp with hp | hp
    · obtain ⟨k, h1, h2, h3, h4, h5⟩ := h.ok p hp
      exact ⟨k, h1, h2, h3, by omega, h5⟩
    · have : p = ⟨k, i, i + 1⟩ := by simpa using hp
      subst this
      refine ⟨k, rfl, ?_, ?_, ?_, fun m h1 h2 => ?_⟩
      · simp
      · simp only; omega
      · simp
      · have : m = i := by simp only at h1 h2; omega
        subst this; exact e
  ord j hj := by
    simp only [List.length_append, List.length_cons, List.length_nil] at hj
    by_cases hj' : j + 1 < ps.length
    · rw [nth_app_l (by omega), nth_app_l hj']
      exact h.ord j hj'
    · rw [nth_app_l (by omega), nth_app_e (by omega)]
      obtain ⟨_, _, _, _, h4, _⟩ := h.ok _ (nth_mem (xs := ps) (i := j) (by omega))
      simp only
      exact h4
  cnt q := by
    rw [heard_app, heard_one, h.cnt q, take_succ_cnt hi, e]
    by_cases hq : k = q
    · subst hq; simp; omega
    · have h3 : ¬ ((k : Int) = (q : Int)) := by omega
      simp [hq, h3]
theorem pcs_more {told : List (Option Nat)} {ps : List Piece} {p : Piece} {i k : Nat} (h : Pcs told (ps ++ [p]) i) (hi : i < told.length) (e : nth told i = some k) (h1 : p.n = k) (h2 : p.e = i) : Pcs told (ps ++ [⟨p.n, p.b, i + 1⟩]) (i + 1) where
  len := by have := h.len; simp at this ⊢; omega
  ok q hq := by
    rcases List.mem_append.mp hq with hq | hq
    · obtain ⟨k, h1, h2, h3, h4, h5⟩ := h.ok q (List.mem_append.mpr (.inl hq))
      exact ⟨k, h1, h2, h3, by omega, h5⟩
    · have : q = ⟨p.n, p.b, i + 1⟩ := by simpa using hq
      subst this
      obtain ⟨k', g1, g2, g3, g4, g5⟩ := h.ok p (List.mem_append.mpr (.inr List.mem_cons_self))
      have : k' = k := by omega
      subst this
      refine ⟨k', g1, g2, ?_, ?_, fun m q1 q2 => ?_⟩
      · simp only; omega
      · simp
      · by_cases hm : (m : Int) < p.e
        · exact g5 m q1 hm
        · have : m = i := by simp only at q1 q2; omega
          subst this; exact e
  ord j hj := by
    simp only [List.length_append, List.length_cons, List.length_nil] at hj
    have := h.ord j (by simpa using hj)
    by_cases hj' : j + 1 < ps.length
    · rw [nth_app_l (by omega), nth_app_l hj'] at this ⊢
      exact this
    · rw [nth_app_l (by omega), nth_app_e (by omega)] at this ⊢
      exact this
  cnt q := by
    have := h.cnt q
    rw [heard_app, heard_one] at this
    rw [heard_app, heard_one, take_succ_cnt hi, e]
    by_cases hq : k = q
    · subst hq
      simp only [h1, if_true] at this ⊢
      omega
    · have h3 : ¬ ((k : Int) = (q : Int)) := by omega
      simp only [h1, h3, if_false] at this ⊢
      rw [if_neg (by simp [hq])]
      omega
theorem eq_ni (i : Int) (s t : Sh) (a b : List Nat) : g2S gEq ⟨s, .none, a⟩ ⟨t, .int i, b⟩ = some ⟨.s, .bool false, []⟩ := by
  unfold g2S; simp only [gEq_of (k := false) (show min (PyData.none).depth (PyData.int i).depth ≤ 64 from Nat.zero_le _) (by simp [PyData.eqv])]; rfl
theorem ix_last (xs : List D) (d : D) (t : Sh) (i : Int) (a b : List Nat) (h : i = xs.length) : gIx ⟨.l .s, .list (xs ++ [d]), a⟩ ⟨t, .int i, b⟩ = some ⟨.s, d, []⟩ := by
  subst h
  refine ix_ll _ _ _ _ _ _ (by omega) ?_
  simp
theorem pieces_body (told : List (Option Nat)) (ps : List Piece) (i : Nat) (v3 : Option (Sh × D)) (h : Pcs told ps i) (hi : i < told.length) (ht : told.length ≤ 1000) :
    ∃ ps' v3', Pcs told ps' (i + 1) ∧ l1_law_pieces [some (.s, .list (told.map oD)), some (.l .s, .list (ps.map pieceD)), some (.s, .int i), v3] = some (.nx [some (.s, .list (told.map oD)), some (.l .s, .list (ps'.map pieceD)), some (.s, .int i), v3']) := by
  have hz : sizeLine = 16777216 := sizeLine_val
  have hlen := h.len
  have hx' : ps.length < 16777216 := by omega
  unfold l1_law_pieces
  cases e : nth told i with
  | none =>
    refine ⟨ps, v3, pcs_none h hi e, ?_⟩
    simp -implicitDefEqProofs (disch := omega) [mSeq, mIfS, mTv, mTr, truD, m2, m1, m3, mVar, mC, mCS, mCall, mCons, mNil, rdS, asB, asI, mRet, mRetN, xOf, mSkip, mExp, mSet, mSetF, shareE, mSetT, store, kill, mAnd, mOr, mNot, mAndV, mOrV, mNotV, mIte, mLst, mTup, mApp, pVar, atP, subS, setS, okE, Sh.beq, mPut, mIsN, mNotN, isNon, mIsi, mIsB, mNotB, mSl, oSo, oNo, gSl, elemsL, elemsR, mCL, mCLL, mCIL, mCI, mFrz, mAug, mBrk, mCnt, mPop, mRevL, iSq, iR1, iR2, iEn, iZp, iRv, ownB, wipeE, mYes, gs0, ss0, gs1, ss1, gs2, ss2, gs3, ss3, gs4, ss4, gs5, ss5, gs6, ss6, gs7, ss7, gs8, ss8, gs9, ss9, gs10, ss10, gs11, ss11, gs12, ss12, gs13, ss13, gs14, ss14, gs15, ss15, gs16, ss16, gs17, ss17, gs18, ss18, gs19, ss19, gs20, ss20, gs21, ss21, gs22, ss22, gs23, ss23, gs24, ss24, gs25, ss25, gs26, ss26, gs27, ss27, gs28, ss28, gs29, ss29, add_ii, sub_ii, mod_ii, div_ii, mul_ii, neg_i, lt_ii, le_ii, gt_ii, ge_ii, eq_ii, ne_ii, len_l, len_t, int_i, int_b, R.sha, ix_t0, ix_t1, ix_t2, ix_t3, eq_ss, ne_ss, eq_bb, ne_bb, ix_mS, e, oD]
  | some k =>
    have hcc := List.eq_nil_or_concat ps
    simp only [List.concat_eq_append] at hcc
    rcases hcc with rfl | ⟨qs, p, rfl⟩
    · apply Exists.intro
      apply Exists.intro
      refine ⟨pcs_new h hi e, ?_⟩
      simp -implicitDefEqProofs (disch := omega) [mSeq, mIfS, mTv, mTr, truD, m2, m1, m3, mVar, mC, mCS, mCall, mCons, mNil, rdS, asB, asI, mRet, mRetN, xOf, mSkip, mExp, mSet, mSetF, shareE, mSetT, store, kill, mAnd, mOr, mNot, mAndV, mOrV, mNotV, mIte, mLst, mTup, mApp, pVar, atP, subS, setS, okE, Sh.beq, mPut, mIsN, mNotN, isNon, mIsi, mIsB, mNotB, mSl, oSo, oNo, gSl, elemsL, elemsR, mCL, mCLL, mCIL, mCI, mFrz, mAug, mBrk, mCnt, mPop, mRevL, iSq, iR1, iR2, iEn, iZp, iRv, ownB, wipeE, mYes, gs0, ss0, gs1, ss1, gs2, ss2, gs3, ss3, gs4, ss4, gs5, ss5, gs6, ss6, gs7, ss7, gs8, ss8, gs9, ss9, gs10, ss10, gs11, ss11, gs12, ss12, gs13, ss13, gs14, ss14, gs15, ss15, gs16, ss16, gs17, ss17, gs18, ss18, gs19, ss19, gs20, ss20, gs21, ss21, gs22, ss22, gs23, ss23, gs24, ss24, gs25, ss25, gs26, ss26, gs27, ss27, gs28, ss28, gs29, ss29, add_ii, sub_ii, mod_ii, div_ii, mul_ii, neg_i, lt_ii, le_ii, gt_ii, ge_ii, eq_ii, ne_ii, len_l, len_t, int_i, int_b, R.sha, ix_t0, ix_t1, ix_t2, ix_t3, eq_ss, ne_ss, eq_bb, ne_bb, ix_mS, e, oD, eq_ni, hz, pieceD]
      rfl
    · have hx2 : qs.length + 1 < 16777216 := by simpa using hx'
      have e1 : L2.ixN (qs.length + 1) (qs.length : Int) = some qs.length := by
        unfold L2.ixN; rw [if_pos (by omega), if_pos (by omega)]; rfl
      have e2 : ∀ (a : List Nat) (d : D), gIx ⟨.l .s, .list (qs.map pieceD ++ [d]), a⟩ ⟨.s, .int (qs.length : Nat), []⟩ = some ⟨.s, d, []⟩ := fun _ d => ix_last _ _ _ _ _ _ (by simp)
      have e3 : ∀ d x : D, (qs.map pieceD ++ [d]).set qs.length x = qs.map pieceD ++ [x] := fun d x => by
        have : qs.length = (qs.map pieceD).length := by simp
        rw [this, List.set_append_right _ _ (Nat.le_refl _)]
        simp
      by_cases hp : p.n = k ∧ p.e = i
      · apply Exists.intro
        apply Exists.intro
        refine ⟨pcs_more h hi e hp.1 hp.2, ?_⟩
        simp -implicitDefEqProofs (disch := omega) [mSeq, mIfS, mTv, mTr, truD, m2, m1, m3, mVar, mC, mCS, mCall, mCons, mNil, rdS, asB, asI, mRet, mRetN, xOf, mSkip, mExp, mSet, mSetF, shareE, mSetT, store, kill, mAnd, mOr, mNot, mAndV, mOrV, mNotV, mIte, mLst, mTup, mApp, pVar, atP, subS, setS, okE, Sh.beq, mPut, mIsN, mNotN, isNon, mIsi, mIsB, mNotB, mSl, oSo, oNo, gSl, elemsL, elemsR, mCL, mCLL, mCIL, mCI, mFrz, mAug, mBrk, mCnt, mPop, mRevL, iSq, iR1, iR2, iEn, iZp, iRv, ownB, wipeE, mYes, gs0, ss0, gs1, ss1, gs2, ss2, gs3, ss3, gs4, ss4, gs5, ss5, gs6, ss6, gs7, ss7, gs8, ss8, gs9, ss9, gs10, ss10, gs11, ss11, gs12, ss12, gs13, ss13, gs14, ss14, gs15, ss15, gs16, ss16, gs17, ss17, gs18, ss18, gs19, ss19, gs20, ss20, gs21, ss21, gs22, ss22, gs23, ss23, gs24, ss24, gs25, ss25, gs26, ss26, gs27, ss27, gs28, ss28, gs29, ss29, add_ii, sub_ii, mod_ii, div_ii, mul_ii, neg_i, lt_ii, le_ii, gt_ii, ge_ii, eq_ii, ne_ii, len_l, len_t, int_i, int_b, R.sha, ix_t0, ix_t1, ix_t2, ix_t3, eq_ss, ne_ss, eq_bb, ne_bb, ix_mS, e, oD, hp.1, hp.2, hz, pieceD, e1, e2, e3, hx2]
        rfl
      · by_cases hq : p.n = k
        · have hr : ¬ p.e = i := fun hr => hp ⟨hq, hr⟩
          apply Exists.intro
          apply Exists.intro
          refine ⟨pcs_new h hi e, ?_⟩
          simp -implicitDefEqProofs (disch := omega) [mSeq, mIfS, mTv, mTr, truD, m2, m1, m3, mVar, mC, mCS, mCall, mCons, mNil, rdS, asB, asI, mRet, mRetN, xOf, mSkip, mExp, mSet, mSetF, shareE, mSetT, store, kill, mAnd, mOr, mNot, mAndV, mOrV, mNotV, mIte, mLst, mTup, mApp, pVar, atP, subS, setS, okE, Sh.beq, mPut, mIsN, mNotN, isNon, mIsi, mIsB, mNotB, mSl, oSo, oNo, gSl, elemsL, elemsR, mCL, mCLL, mCIL, mCI, mFrz, mAug, mBrk, mCnt, mPop, mRevL, iSq, iR1, iR2, iEn, iZp, iRv, ownB, wipeE, mYes, gs0, ss0, gs1, ss1, gs2, ss2, gs3, ss3, gs4, ss4, gs5, ss5, gs6, ss6, gs7, ss7, gs8, ss8, gs9, ss9, gs10, ss10, gs11, ss11, gs12, ss12, gs13, ss13, gs14, ss14, gs15, ss15, gs16, ss16, gs17, ss17, gs18, ss18, gs19, ss19, gs20, ss20, gs21, ss21, gs22, ss22, gs23, ss23, gs24, ss24, gs25, ss25, gs26, ss26, gs27, ss27, gs28, ss28, gs29, ss29, add_ii, sub_ii, mod_ii, div_ii, mul_ii, neg_i, lt_ii, le_ii, gt_ii, ge_ii, eq_ii, ne_ii, len_l, len_t, int_i, int_b, R.sha, ix_t0, ix_t1, ix_t2, ix_t3, eq_ss, ne_ss, eq_bb, ne_bb, ix_mS, e, oD, hq, hr, hz, pieceD, e1, e2, e3, hx2]
          rfl
        · apply Exists.intro
          apply Exists.intro
          refine ⟨pcs_new h hi e, ?_⟩
          simp -implicitDefEqProofs (disch := omega) [mSeq, mIfS, mTv, mTr, truD, m2, m1, m3, mVar, mC, mCS, mCall, mCons, mNil, rdS, asB, asI, mRet, mRetN, xOf, mSkip, mExp, mSet, mSetF, shareE, mSetT, store, kill, mAnd, mOr, mNot, mAndV, mOrV, mNotV, mIte, mLst, mTup, mApp, pVar, atP, subS, setS, okE, Sh.beq, mPut, mIsN, mNotN, isNon, mIsi, mIsB, mNotB, mSl, oSo, oNo, gSl, elemsL, elemsR, mCL, mCLL, mCIL, mCI, mFrz, mAug, mBrk, mCnt, mPop, mRevL, iSq, iR1, iR2, iEn, iZp, iRv, ownB, wipeE, mYes, gs0, ss0, gs1, ss1, gs2, ss2, gs3, ss3, gs4, ss4, gs5, ss5, gs6, ss6, gs7, ss7, gs8, ss8, gs9, ss9, gs10, ss10, gs11, ss11, gs12, ss12, gs13, ss13, gs14, ss14, gs15, ss15, gs16, ss16, gs17, ss17, gs18, ss18, gs19, ss19, gs20, ss20, gs21, ss21, gs22, ss22, gs23, ss23, gs24, ss24, gs25, ss25, gs26, ss26, gs27, ss27, gs28, ss28, gs29, ss29, add_ii, sub_ii, mod_ii, div_ii, mul_ii, neg_i, lt_ii, le_ii, gt_ii, ge_ii, eq_ii, ne_ii, len_l, len_t, int_i, int_b, R.sha, ix_t0, ix_t1, ix_t2, ix_t3, eq_ss, ne_ss, eq_bb, ne_bb, ix_mS, e, oD, hq, hz, pieceD, e1, e2, e3, hx2]
          rfl
end K56

set_option maxRecDepth 100000
set_option linter.all false
set_option maxHeartbeats 4000000
namespace K56
open PySem M
theorem pieces_loop (told : List (Option Nat)) (ht : told.length ≤ 1000) : ∃ e', forL (fun d e => (tgN 2 e d).bind l1_law_pieces) (rngD 0 told.length) [some (.s, .list (told.map oD)), some (.l .s, .list []), none, none] = some (.nx e') ∧ ∃ ps v2 v3, e' = [some (.s, .list (told.map oD)), some (.l .s, .list (ps.map pieceD)), v2, v3] ∧ Pcs told ps told.length := by
  have := forL_inv (b := fun d e => (tgN 2 e d).bind l1_law_pieces) (ds := rngD 0 told.length) (env := [some (.s, .list (told.map oD)), some (.l .s, .list []), none, none])
      (fun i e => ∃ (ps : List Piece) (v2 v3 : Option (Sh × D)), e = [some (.s, .list (told.map oD)), some (.l .s, .list (ps.map pieceD)), v2, v3] ∧ Pcs told ps i)
      ⟨[], none, none, rfl, { len := Nat.le_refl _, ok := fun p hp => (by cases hp), ord := fun j hj => (by simp at hj), cnt := fun k => (by simp [heard]) }⟩ (by
        rintro i d e hd ⟨ps, v2, v3, rfl, hP⟩
        obtain ⟨hi, rfl⟩ := rngD_at hd
        rw [Int.zero_add]
        obtain ⟨ps', v3', hP', e1⟩ := pieces_body told ps i v3 hP hi ht
        exact ⟨_, (tgN_bind (by decide : 2 < 4)).trans e1, ps', some (.s, .int i), v3', rfl, hP'⟩)
  rw [rngD_len] at this
  exact this
theorem pieces_ok (told : List (Option Nat)) (ht : told.length ≤ 1000) : ∃ ps, m_law_pieces [.list (told.map oD)] = some (.l .s, .list (ps.map pieceD)) ∧ Pcs told ps told.length := by
  obtain ⟨e', h1, ps, v2, v3, rfl, h4⟩ := pieces_loop told ht
  have hok : okR (told.length : Int) = true := by simp [okR]; omega
  refine ⟨ps, ?_, h4⟩
  have c1 : mFor (iR1 (mCS gLen (mCons (mVar 0) (mNil)))) (tgN 2) l1_law_pieces [some (.s, .list (told.map oD)), some (.l .s, .list []), none, none] = _ := mFor_of (by simp -implicitDefEqProofs (disch := omega) [mSeq, mIfS, mTv, mTr, truD, m2, m1, m3, mVar, mC, mCS, mCall, mCons, mNil, rdS, asB, asI, mRet, mRetN, xOf, mSkip, mExp, mSet, mSetF, shareE, mSetT, store, kill, mAnd, mOr, mNot, mAndV, mOrV, mNotV, mIte, mLst, mTup, mApp, pVar, atP, subS, setS, okE, Sh.beq, mPut, mIsN, mNotN, isNon, mIsi, mIsB, mNotB, mSl, oSo, oNo, gSl, elemsL, elemsR, mCL, mCLL, mCIL, mCI, mFrz, mAug, mBrk, mCnt, mPop, mRevL, iSq, iR1, iR2, iEn, iZp, iRv, ownB, wipeE, mYes, gs0, ss0, gs1, ss1, gs2, ss2, gs3, ss3, gs4, ss4, gs5, ss5, gs6, ss6, gs7, ss7, gs8, ss8, gs9, ss9, gs10, ss10, gs11, ss11, gs12, ss12, gs13, ss13, gs14, ss14, gs15, ss15, gs16, ss16, gs17, ss17, gs18, ss18, gs19, ss19, gs20, ss20, gs21, ss21, gs22, ss22, gs23, ss23, gs24, ss24, gs25, ss25, gs26, ss26, gs27, ss27, gs28, ss28, gs29, ss29, add_ii, sub_ii, mod_ii, div_ii, mul_ii, neg_i, lt_ii, le_ii, gt_ii, ge_ii, eq_ii, ne_ii, len_l, len_t, int_i, int_b, R.sha, ix_t0, ix_t1, ix_t2, ix_t3, eq_ss, ne_ss, eq_bb, ne_bb, hok]) h1
  have c2 : b_law_pieces [some (.s, .list (told.map oD)), none, none, none] = some (.rt (.l .s) (.list (ps.map pieceD))) := by
    unfold b_law_pieces
    simp -implicitDefEqProofs (disch := omega) [mSeq, mIfS, mTv, mTr, truD, m2, m1, m3, mVar, mC, mCS, mCall, mCons, mNil, rdS, asB, asI, mRet, mRetN, xOf, mSkip, mExp, mSet, mSetF, shareE, mSetT, store, kill, mAnd, mOr, mNot, mAndV, mOrV, mNotV, mIte, mLst, mTup, mApp, pVar, atP, subS, setS, okE, Sh.beq, mPut, mIsN, mNotN, isNon, mIsi, mIsB, mNotB, mSl, oSo, oNo, gSl, elemsL, elemsR, mCL, mCLL, mCIL, mCI, mFrz, mAug, mBrk, mCnt, mPop, mRevL, iSq, iR1, iR2, iEn, iZp, iRv, ownB, wipeE, mYes, gs0, ss0, gs1, ss1, gs2, ss2, gs3, ss3, gs4, ss4, gs5, ss5, gs6, ss6, gs7, ss7, gs8, ss8, gs9, ss9, gs10, ss10, gs11, ss11, gs12, ss12, gs13, ss13, gs14, ss14, gs15, ss15, gs16, ss16, gs17, ss17, gs18, ss18, gs19, ss19, gs20, ss20, gs21, ss21, gs22, ss22, gs23, ss23, gs24, ss24, gs25, ss25, gs26, ss26, gs27, ss27, gs28, ss28, gs29, ss29, add_ii, sub_ii, mod_ii, div_ii, mul_ii, neg_i, lt_ii, le_ii, gt_ii, ge_ii, eq_ii, ne_ii, len_l, len_t, int_i, int_b, R.sha, ix_t0, ix_t1, ix_t2, ix_t3, eq_ss, ne_ss, eq_bb, ne_bb, c1]
  exact runF_rt (n := 4) rfl c2
end K56

set_option maxRecDepth 100000
set_option linter.all false
set_option maxHeartbeats 4000000
namespace K56
open PySem M
/-! ### sums over the first n places -/
def S (n : Nat) (f : Nat → Int) : Int := ((List.range n).map f).sum
theorem S_zero (f : Nat → Int) : S 0 f = 0 := rfl
theorem S_succ (n : Nat) (f : Nat → Int) : S (n + 1) f = S n f + f n := by
  unfold S; rw [List.range_succ, List.map_append, List.sum_append]; simp
theorem S_congr {n : Nat} {f g : Nat → Int} (h : ∀ k, k < n → f k = g k) : S n f = S n g := by
  induction n with
  | zero => rfl
  | succ n ih => rw [S_succ, S_succ, ih fun k hk => h k (by omega), h n (by omega)]
theorem S_le {n : Nat} {f g : Nat → Int} (h : ∀ k, k < n → f k ≤ g k) : S n f ≤ S n g := by
  induction n with
  | zero => exact Int.le_refl _
  | succ n ih =>
    have h1 := ih fun k hk => h k (by omega)
    have h2 := h n (by omega)
    rw [S_succ, S_succ]; omega
theorem S_add (n : Nat) (f g : Nat → Int) : S n (fun k => f k + g k) = S n f + S n g := by
  induction n with
  | zero => rfl
  | succ n ih => rw [S_succ, S_succ, S_succ, ih]; omega
theorem S_none (n : Nat) : S n (fun _ => 0) = 0 := by
  induction n with
  | zero => rfl
  | succ n ih => rw [S_succ, ih]; rfl
theorem S_one (n m : Nat) (x : Int) : S n (fun k => if m = k then x else 0) = if m < n then x else 0 := by
  induction n with
  | zero => rfl
  | succ n ih =>
    rw [S_succ, ih]
    rcases (by omega : m < n ∨ m = n ∨ n < m) with h | h | h
    · rw [if_pos h, if_neg (by omega), if_pos (by omega)]; omega
    · subst h; simp
    · rw [if_neg (by omega), if_neg (by omega), if_neg (by omega)]; rfl
theorem map_nth {α β : Type} [Inhabited α] (f : α → β) (xs : List α) : xs.map f = (List.range xs.length).map fun k => f (nth xs k) := by
  apply List.ext_getElem
  · simp
  · intro i h1 h2
    simp only [List.getElem_map, List.getElem_range]
    rw [nth_of (List.getElem?_eq_getElem (by simpa using h1))]
def demand (ns : List Note) (s t : Int) : Int := ((ns.filter fun n => decide (s ≤ n.a) && decide (n.d ≤ t)).map Note.b).sum
theorem filter_sum {α : Type} (p : α → Bool) (f : α → Int) : ∀ xs : List α, ((xs.filter p).map f).sum = (xs.map fun x => if p x then f x else 0).sum
  | [] => rfl
  | x :: xs => by
    have := filter_sum p f xs
    by_cases h : p x = true
    · rw [List.filter_cons_of_pos h, List.map_cons, List.map_cons, List.sum_cons, List.sum_cons, this, if_pos h]
    · rw [List.filter_cons_of_neg h, List.map_cons, List.sum_cons, this, if_neg h]; omega
def sel (ns : List Note) (s t : Int) (k : Nat) : Bool := decide (s ≤ (nth ns k).a) && decide ((nth ns k).d ≤ t)
theorem demand_S (ns : List Note) (s t : Int) : demand ns s t = S ns.length fun k => if sel ns s t k then (nth ns k).b else 0 := by
  unfold demand S sel
  rw [filter_sum, map_nth]
def FullOk (ns : List Note) (s t : Int) : Prop := 0 ≤ s ∧ s < t ∧ t - s < demand ns s t
instance (ns : List Note) (s t : Int) : Decidable (FullOk ns s t) := by unfold FullOk; exact inferInstance
def POk (ns : List Note) (p : Piece) : Prop := 0 ≤ p.n ∧ p.n < ns.length ∧ p.b < p.e ∧ (nth ns p.n.toNat).a ≤ p.b ∧ p.e ≤ (nth ns p.n.toNat).d
instance (ns : List Note) (p : Piece) : Decidable (POk ns p) := by unfold POk; exact inferInstance
structure PlanOk (ns : List Note) (ps : List Piece) : Prop where
  ok : ∀ p ∈ ps, POk ns p
  ord : ∀ j, j + 1 < ps.length → (nth ps j).e ≤ (nth ps (j + 1)).b
  all : ∀ k, k < ns.length → heard k ps = (nth ns k).b
/-! ### what the moments told give -/
def cI (L : List (Option Nat)) (k : Nat) : Int := ((L.count (some k) : Nat) : Int)
theorem sum_count (p : Nat → Bool) (n : Nat) : ∀ L : List (Option Nat), (∀ x ∈ L, ∃ k, x = some k ∧ k < n ∧ p k = true) → S n (fun k => if p k then cI L k else 0) = (L.length : Nat)
  | [], _ => by simp [S_none, cI]
  | x :: L, h => by
    obtain ⟨j, rfl, hj, hp⟩ := h x List.mem_cons_self
    have ih := sum_count p n L fun y hy => h y (List.mem_cons_of_mem _ hy)
    have e : S n (fun k => if p k then cI (some j :: L) k else 0) = S n (fun k => (if p k then cI L k else 0) + if j = k then 1 else 0) := by
      refine S_congr fun k hk => ?_
      unfold cI
      rw [List.count_cons]
      by_cases h1 : j = k
      · subst h1; simp [hp]
      · have : ¬ (some j = some k) := fun e => h1 (by cases e; rfl)
        simp [h1]
    rw [e, S_add, ih, S_one, if_pos hj, List.length_cons]; omega
theorem plan_of_told {ns : List Note} {told : List (Option Nat)} {left : List Int} {i : Nat} {ps : List Piece} (h : Told ns told left i) (h0 : ∀ k, k < ns.length → nth left k = 0) (hP : Pcs told ps told.length) : PlanOk ns ps where
  ok p hp := by
    obtain ⟨k, h1, h2, h3, h4, h5⟩ := hP.ok p hp
    have ht := h.tl
    have a1 := h.rng p.b.toNat k (by omega) (h5 _ (by omega) (by omega))
    have a2 := h.rng (p.e - 1).toNat k (by omega) (h5 _ (by omega) (by omega))
    have : p.n.toNat = k := by omega
    unfold POk
    rw [this]
    exact ⟨by omega, by omega, h3, by omega, by omega⟩
  ord := hP.ord
  all k hk := by
    rw [hP.cnt k, List.take_length]
    have := h.sum k hk
    have := h0 k hk
    omega
theorem full_of_told {ns : List Note} (hg : GoodNs ns) {told : List (Option Nat)} {left : List Int} {t c : Nat} (h : Told ns told left t) (hk : ∃ k, k < ns.length ∧ (nth ns k).d = t ∧ 0 < nth left k) (hc : c ≤ t)
    (h1 : ∀ m, c ≤ m → m < t → ∃ k, nth told m = some k ∧ (nth ns k).d ≤ t) (h2 : 0 < c → ∀ j, nth told (c - 1) = some j → (t : Int) < (nth ns j).d) : FullOk ns c t := by
  obtain ⟨k0, hk0, hd0, hp0⟩ := hk
  have ht := h.tl
  have quiet : 0 < c → ∀ k, k < ns.length → (nth ns k).a ≤ (c : Int) - 1 → (nth ns k).d ≤ t → nth left k = 0 ∧ ∀ m', c - 1 ≤ m' → m' < t → nth told m' ≠ some k := by
    intro hc0 k hk ha hd
    refine h.edf (c - 1) k (by omega) hk (by omega) fun j hj => ?_
    have := h2 hc0 j hj
    omega
  have ha0 : (c : Int) ≤ (nth ns k0).a := by
    rcases (by omega : (c : Int) ≤ (nth ns k0).a ∨ (nth ns k0).a < c) with q | q
    · exact q
    · have hg0 := good_nth hg hk0
      unfold GoodN at hg0
      have := (quiet (by omega) k0 hk0 (by omega) (by omega)).1
      omega
  have hg0 := good_nth hg hk0
  unfold GoodN at hg0
  refine ⟨by omega, by omega, ?_⟩
  rw [demand_S]
  have hin : ∀ x ∈ told.drop c, ∃ k, x = some k ∧ k < ns.length ∧ sel ns c t k = true := by
    intro x hx
    obtain ⟨i, hi, e⟩ := mem_nth hx
    have hi' : i < told.length - c := by simpa using hi
    have e2 : nth (told.drop c) i = nth told (c + i) := by
      apply nth_of
      rw [List.getElem?_drop]
      exact nth_get (by omega)
    rw [e2] at e
    obtain ⟨k, q1, q2⟩ := h1 (c + i) (by omega) (by omega)
    have q3 := h.rng (c + i) k (by omega) q1
    refine ⟨k, by rw [← e, q1], q3.1, ?_⟩
    unfold sel
    rw [Bool.and_eq_true, decide_eq_true_eq, decide_eq_true_eq]
    refine ⟨?_, q2⟩
    rcases (by omega : (c : Int) ≤ (nth ns k).a ∨ (nth ns k).a < c) with q | q
    · exact q
    · have hg1 := good_nth hg q3.1
      unfold GoodN at hg1
      exact absurd q1 ((quiet (by omega) k q3.1 (by omega) q2).2 (c + i) (by omega) (by omega))
  have hs := sum_count (sel ns c t) ns.length (told.drop c) hin
  have hlen : (told.drop c).length = t - c := by rw [List.length_drop, ht]
  have hle : S ns.length (fun k => (if sel ns c t k then cI (told.drop c) k else 0) + if k0 = k then 1 else 0) ≤ S ns.length fun k => if sel ns c t k then (nth ns k).b else 0 := by
    refine S_le fun k hk => ?_
    have g1 := h.sum k hk
    have g2 := h.nn k hk
    have g3 : (told.drop c).count (some k) ≤ told.count (some k) := (List.drop_sublist c told).count_le _
    have g4 : cI (told.drop c) k = ((told.drop c).count (some k) : Nat) := rfl
    by_cases e : k0 = k
    · subst e
      have : sel ns c t k0 = true := by
        unfold sel; rw [Bool.and_eq_true, decide_eq_true_eq, decide_eq_true_eq]; exact ⟨ha0, by omega⟩
      rw [if_pos this, if_pos this, if_pos rfl]
      omega
    · rw [if_neg e]
      by_cases q : sel ns c t k = true
      · rw [if_pos q, if_pos q]; omega
      · rw [if_neg q, if_neg q]; omega
  rw [S_add, hs, S_one, if_pos hk0] at hle
  omega
/-! ### a plan and a full stretch cannot both stand -/
def prevE (ps : List Piece) : Nat → Int
  | 0 => 0
  | j + 1 => (nth ps j).e
theorem heard_take {ps : List Piece} {i : Nat} (h : i < ps.length) (k : Int) : heard k (ps.take (i + 1)) = heard k (ps.take i) + if (nth ps i).n = k then (nth ps i).e - (nth ps i).b else 0 := by
  rw [List.take_succ, nth_get h, heard_app, Option.toList_some, heard_one]
theorem never_both {ns : List Note} (hg : GoodNs ns) {ps : List Piece} {s t : Int} (hp : PlanOk ns ps) (hf : FullOk ns s t) : False := by
  obtain ⟨f1, f2, f3⟩ := hf
  have key : ∀ i, i ≤ ps.length → S ns.length (fun k => if sel ns s t k then heard k (ps.take i) else 0) ≤ max 0 (min t (prevE ps i) - s) := by
    intro i
    induction i with
    | zero =>
      intro _
      have : S ns.length (fun k => if sel ns s t k then heard k (ps.take 0) else 0) = S ns.length fun _ => 0 := S_congr fun k _ => by simp [heard]
      rw [this, S_none]
      omega
    | succ i ih =>
      intro hi
      have h1 := ih (by omega)
      obtain ⟨p1, p2, p3, p4, p5⟩ := hp.ok _ (nth_mem (xs := ps) (i := i) (by omega))
      have hb : prevE ps i ≤ (nth ps i).b := by
        cases i with
        | zero =>
          have := good_nth hg (k := (nth ps 0).n.toNat) (by omega)
          unfold GoodN at this
          simp only [prevE]
          omega
        | succ j => exact hp.ord j hi
      have e : S ns.length (fun k => if sel ns s t k then heard k (ps.take (i + 1)) else 0) = S ns.length (fun k => (if sel ns s t k then heard k (ps.take i) else 0) + if (nth ps i).n.toNat = k then (if sel ns s t (nth ps i).n.toNat then (nth ps i).e - (nth ps i).b else 0) else 0) := by
        refine S_congr fun k hk => ?_
        rw [heard_take (by omega)]
        by_cases q : (nth ps i).n = k
        · have q2 : (nth ps i).n.toNat = k := by omega
          rw [if_pos q, if_pos q2, q2]
          split <;> omega
        · have q2 : ¬ (nth ps i).n.toNat = k := by omega
          rw [if_neg q, if_neg q2]
          split <;> omega
      rw [e, S_add, S_one, if_pos (by omega)]
      simp only [prevE]
      by_cases q : sel ns s t (nth ps i).n.toNat = true
      · rw [if_pos q]
        unfold sel at q
        rw [Bool.and_eq_true, decide_eq_true_eq, decide_eq_true_eq] at q
        omega
      · rw [if_neg q]
        omega
  have h1 := key ps.length (Nat.le_refl _)
  have e : S ns.length (fun k => if sel ns s t k then heard k (ps.take ps.length) else 0) = demand ns s t := by
    rw [demand_S]
    refine S_congr fun k hk => ?_
    rw [List.take_length, hp.all k hk]
  rw [e] at h1
  omega
end K56

set_option maxRecDepth 100000
set_option linter.all false
set_option maxHeartbeats 4000000
namespace K56
open PySem M
inductive Paper
  | plan (ps : List Piece)
  | full (s t : Int)
  | full1
  | plan3 (ps : List Piece)
  | plans (ps : List Piece)
  | emp
  | plan0
  | fuller
def psD (ps : List Piece) : D := .list (ps.map pieceD)
def paperD : Paper → D
  | .plan ps => .tuple [.str "plan", psD ps]
  | .full s t => .tuple [.str "full", .int s, .int t]
  | .full1 => .tuple [.str "full", .int 0]
  | .plan3 ps => .tuple [.str "plan", psD ps, .int 0]
  | .plans ps => .tuple [.str "plans", psD ps]
  | .emp => .tuple []
  | .plan0 => .tuple [.str "plan"]
  | .fuller => .tuple [.str "fuller", .int 0, .int 1]
def Acc (ns : List Note) : Paper → Prop
  | .plan ps => PlanOk ns ps
  | .full s t => FullOk ns s t
  | _ => False
def IsV : Paper → Prop
  | .plan _ => True
  | .full _ _ => True
  | _ => False
theorem verdict_body (ns : List Note) (told : List (Option Nat)) (t b i : Int) (h0 : b = t - i → 0 < b ∧ b ≤ told.length) (hr : ∀ (m k : Nat), nth told m = some k → m < told.length → k < ns.length) :
    ∃ b', l1_law_verdict [some (.s, .list (ns.map noteD)), some (.s, .list (told.map oD)), some (.s, .int t), some (.s, .int b), some (.s, .int i)] = some (.nx [some (.s, .list (ns.map noteD)), some (.s, .list (told.map oD)), some (.s, .int t), some (.s, .int b'), some (.s, .int i)]) ∧
      ((b' = b - 1 ∧ b = t - i ∧ ∃ k, nth told (b.toNat - 1) = some k ∧ (nth ns k).d ≤ t) ∨ (b' = b ∧ ¬ (b = t - i ∧ ∃ k, nth told (b.toNat - 1) = some k ∧ (nth ns k).d ≤ t))) := by
  unfold l1_law_verdict
  by_cases hq : b = t - i
  · have h1 := h0 hq
    have hq' : (b = t - i) = True := eq_true hq
    cases e : nth told (b.toNat - 1) with
    | none =>
      refine ⟨b, ?_, .inr ⟨rfl, ?_⟩⟩
      · simp -implicitDefEqProofs (disch := omega) [mSeq, mIfS, mTv, mTr, truD, m2, m1, m3, mVar, mC, mCS, mCall, mCons, mNil, rdS, asB, asI, mRet, mRetN, xOf, mSkip, mExp, mSet, mSetF, shareE, mSetT, store, kill, mAnd, mOr, mNot, mAndV, mOrV, mNotV, mIte, mLst, mTup, mApp, pVar, atP, subS, setS, okE, Sh.beq, mPut, mIsN, mNotN, isNon, mIsi, mIsB, mNotB, mSl, oSo, oNo, elemsL, elemsR, mCL, mCLL, mCIL, mCI, mFrz, mAug, mBrk, mCnt, mPop, mRevL, iSq, iR1, iR2, iEn, iZp, iRv, ownB, wipeE, mYes, gs0, ss0, gs1, ss1, gs2, ss2, gs3, ss3, gs4, ss4, gs5, ss5, gs6, ss6, gs7, ss7, gs8, ss8, gs9, ss9, gs10, ss10, gs11, ss11, gs12, ss12, gs13, ss13, gs14, ss14, gs15, ss15, gs16, ss16, gs17, ss17, gs18, ss18, gs19, ss19, gs20, ss20, gs21, ss21, gs22, ss22, gs23, ss23, gs24, ss24, gs25, ss25, gs26, ss26, gs27, ss27, gs28, ss28, gs29, ss29, add_ii, sub_ii, mod_ii, div_ii, mul_ii, neg_i, lt_ii, le_ii, gt_ii, ge_ii, eq_ii, ne_ii, len_l, len_t, int_i, int_b, R.sha, ix_t0, ix_t1, ix_t2, ix_t3, eq_ss, ne_ss, eq_bb, ne_bb, hq', ix_mS, e, oD]
      · rintro ⟨_, k, h, _⟩; cases h
    | some k =>
      have hk := hr _ k e (by omega)
      by_cases hd : (nth ns k).d ≤ t
      · refine ⟨b - 1, ?_, .inl ⟨rfl, hq, k, rfl, hd⟩⟩
        simp -implicitDefEqProofs (disch := omega) [mSeq, mIfS, mTv, mTr, truD, m2, m1, m3, mVar, mC, mCS, mCall, mCons, mNil, rdS, asB, asI, mRet, mRetN, xOf, mSkip, mExp, mSet, mSetF, shareE, mSetT, store, kill, mAnd, mOr, mNot, mAndV, mOrV, mNotV, mIte, mLst, mTup, mApp, pVar, atP, subS, setS, okE, Sh.beq, mPut, mIsN, mNotN, isNon, mIsi, mIsB, mNotB, mSl, oSo, oNo, elemsL, elemsR, mCL, mCLL, mCIL, mCI, mFrz, mAug, mBrk, mCnt, mPop, mRevL, iSq, iR1, iR2, iEn, iZp, iRv, ownB, wipeE, mYes, gs0, ss0, gs1, ss1, gs2, ss2, gs3, ss3, gs4, ss4, gs5, ss5, gs6, ss6, gs7, ss7, gs8, ss8, gs9, ss9, gs10, ss10, gs11, ss11, gs12, ss12, gs13, ss13, gs14, ss14, gs15, ss15, gs16, ss16, gs17, ss17, gs18, ss18, gs19, ss19, gs20, ss20, gs21, ss21, gs22, ss22, gs23, ss23, gs24, ss24, gs25, ss25, gs26, ss26, gs27, ss27, gs28, ss28, gs29, ss29, add_ii, sub_ii, mod_ii, div_ii, mul_ii, neg_i, lt_ii, le_ii, gt_ii, ge_ii, eq_ii, ne_ii, len_l, len_t, int_i, int_b, R.sha, ix_t0, ix_t1, ix_t2, ix_t3, eq_ss, ne_ss, eq_bb, ne_bb, hq', ix_mS, e, oD, noteD, hd]
      · refine ⟨b, ?_, .inr ⟨rfl, ?_⟩⟩
        · simp -implicitDefEqProofs (disch := omega) [mSeq, mIfS, mTv, mTr, truD, m2, m1, m3, mVar, mC, mCS, mCall, mCons, mNil, rdS, asB, asI, mRet, mRetN, xOf, mSkip, mExp, mSet, mSetF, shareE, mSetT, store, kill, mAnd, mOr, mNot, mAndV, mOrV, mNotV, mIte, mLst, mTup, mApp, pVar, atP, subS, setS, okE, Sh.beq, mPut, mIsN, mNotN, isNon, mIsi, mIsB, mNotB, mSl, oSo, oNo, elemsL, elemsR, mCL, mCLL, mCIL, mCI, mFrz, mAug, mBrk, mCnt, mPop, mRevL, iSq, iR1, iR2, iEn, iZp, iRv, ownB, wipeE, mYes, gs0, ss0, gs1, ss1, gs2, ss2, gs3, ss3, gs4, ss4, gs5, ss5, gs6, ss6, gs7, ss7, gs8, ss8, gs9, ss9, gs10, ss10, gs11, ss11, gs12, ss12, gs13, ss13, gs14, ss14, gs15, ss15, gs16, ss16, gs17, ss17, gs18, ss18, gs19, ss19, gs20, ss20, gs21, ss21, gs22, ss22, gs23, ss23, gs24, ss24, gs25, ss25, gs26, ss26, gs27, ss27, gs28, ss28, gs29, ss29, add_ii, sub_ii, mod_ii, div_ii, mul_ii, neg_i, lt_ii, le_ii, gt_ii, ge_ii, eq_ii, ne_ii, len_l, len_t, int_i, int_b, R.sha, ix_t0, ix_t1, ix_t2, ix_t3, eq_ss, ne_ss, eq_bb, ne_bb, hq', ix_mS, e, oD, noteD, hd]
        · rintro ⟨_, j, h, h'⟩; cases h; exact hd h'
  · have hq' : (b = t - i) = False := eq_false hq
    refine ⟨b, ?_, .inr ⟨rfl, fun h => hq h.1⟩⟩
    simp -implicitDefEqProofs (disch := omega) [mSeq, mIfS, mTv, mTr, truD, m2, m1, m3, mVar, mC, mCS, mCall, mCons, mNil, rdS, asB, asI, mRet, mRetN, xOf, mSkip, mExp, mSet, mSetF, shareE, mSetT, store, kill, mAnd, mOr, mNot, mAndV, mOrV, mNotV, mIte, mLst, mTup, mApp, pVar, atP, subS, setS, okE, Sh.beq, mPut, mIsN, mNotN, isNon, mIsi, mIsB, mNotB, mSl, oSo, oNo, elemsL, elemsR, mCL, mCLL, mCIL, mCI, mFrz, mAug, mBrk, mCnt, mPop, mRevL, iSq, iR1, iR2, iEn, iZp, iRv, ownB, wipeE, mYes, gs0, ss0, gs1, ss1, gs2, ss2, gs3, ss3, gs4, ss4, gs5, ss5, gs6, ss6, gs7, ss7, gs8, ss8, gs9, ss9, gs10, ss10, gs11, ss11, gs12, ss12, gs13, ss13, gs14, ss14, gs15, ss15, gs16, ss16, gs17, ss17, gs18, ss18, gs19, ss19, gs20, ss20, gs21, ss21, gs22, ss22, gs23, ss23, gs24, ss24, gs25, ss25, gs26, ss26, gs27, ss27, gs28, ss28, gs29, ss29, add_ii, sub_ii, mod_ii, div_ii, mul_ii, neg_i, lt_ii, le_ii, gt_ii, ge_ii, eq_ii, ne_ii, len_l, len_t, int_i, int_b, R.sha, ix_t0, ix_t1, ix_t2, ix_t3, eq_ss, ne_ss, eq_bb, ne_bb, hq']
theorem verdict_loop (ns : List Note) (told : List (Option Nat)) (t : Nat) (ht : told.length = t) (hr : ∀ (m k : Nat), nth told m = some k → m < told.length → k < ns.length) :
    ∃ (c : Nat) (v4 : Option (Sh × D)), forL (fun d e => (tgN 4 e d).bind l1_law_verdict) (rngD 0 t) [some (.s, .list (ns.map noteD)), some (.s, .list (told.map oD)), some (.s, .int t), some (.s, .int t), none] = some (.nx [some (.s, .list (ns.map noteD)), some (.s, .list (told.map oD)), some (.s, .int t), some (.s, .int c), v4]) ∧
      c ≤ t ∧ (∀ m, c ≤ m → m < t → ∃ k, nth told m = some k ∧ (nth ns k).d ≤ t) ∧ (0 < c → ∀ j, nth told (c - 1) = some j → (t : Int) < (nth ns j).d) := by
  have := forL_inv (b := fun d e => (tgN 4 e d).bind l1_law_verdict) (ds := rngD 0 t) (env := [some (.s, .list (ns.map noteD)), some (.s, .list (told.map oD)), some (.s, .int t), some (.s, .int t), none])
    (fun i e => ∃ (c : Nat) (v4 : Option (Sh × D)), e = [some (.s, .list (ns.map noteD)), some (.s, .list (told.map oD)), some (.s, .int t), some (.s, .int c), v4] ∧ c ≤ t ∧ t ≤ c + i ∧ (∀ m, c ≤ m → m < t → ∃ k, nth told m = some k ∧ (nth ns k).d ≤ t) ∧ (t < c + i → ∀ j, nth told (c - 1) = some j → (t : Int) < (nth ns j).d))
    ⟨t, none, rfl, Nat.le_refl _, by omega, fun m h1 h2 => by omega, fun h => by omega⟩ (by
      rintro i d e hd ⟨c, v4, rfl, h1, h2, h3, h4⟩
      obtain ⟨hi, rfl⟩ := rngD_at hd
      rw [Int.zero_add]
      obtain ⟨b', e1, h5⟩ := verdict_body ns told t c i (fun q => by omega) hr
      rcases h5 with ⟨rfl, h6, k, h7, h8⟩ | ⟨rfl, h6⟩
      · obtain ⟨c', rfl⟩ : ∃ c', c = c' + 1 := ⟨c - 1, by omega⟩
        have hc : ((c' + 1 : Nat) : Int) - 1 = (c' : Nat) := by omega
        rw [hc] at e1
        rw [Int.toNat_natCast, Nat.add_sub_cancel] at h7
        refine ⟨_, (tgN_bind (by decide : 4 < 5)).trans e1, c', some (.s, .int i), rfl, by omega, by omega, fun m q1 q2 => ?_, fun q => by omega⟩
        by_cases hm : m = c'
        · subst hm; exact ⟨k, h7, h8⟩
        · exact h3 m (by omega) q2
      · refine ⟨_, (tgN_bind (by decide : 4 < 5)).trans e1, c, some (.s, .int i), rfl, h1, by omega, h3, fun q j hj => ?_⟩
        by_cases q2 : t < c + i
        · exact h4 q2 j hj
        · rcases (by omega : (t : Int) < (nth ns j).d ∨ (nth ns j).d ≤ t) with w | w
          · exact w
          · refine absurd ⟨by omega, j, ?_, w⟩ h6
            rw [Int.toNat_natCast]; exact hj)
  obtain ⟨e', h1, c, v4, rfl, h2, h3, h4, h5⟩ := this
  rw [rngD_len] at h3 h5
  exact ⟨c, v4, h1, h2, h4, fun q => h5 (by omega)⟩
theorem verdict_ok (ns : List Note) (hg : GoodNs ns) : ∃ v, m_law_verdict [.list (ns.map noteD)] = some (.s, paperD v) ∧ (∀ ps, v = .plan ps → ps.length ≤ 100000) ∧ Acc ns v := by
  obtain ⟨told, late, e1, left, i, hT, hi, hL⟩ := told_ok ns hg
  have ht := hT.tl
  cases late with
  | none =>
    obtain ⟨ps, e2, hP⟩ := pieces_ok told (by omega)
    refine ⟨.plan ps, ?_, (fun qs e => by cases e; have := hP.len; omega), plan_of_told hT hL hP⟩
    have c2 : b_law_verdict [some (.s, .list (ns.map noteD)), none, none, none, none] = some (.rt .s (paperD (.plan ps))) := by
      unfold b_law_verdict
      simp -implicitDefEqProofs (disch := omega) [mSeq, mIfS, mTv, mTr, truD, m2, m1, m3, mVar, mC, mCS, mCall, mCons, mNil, rdS, asB, asI, mRet, mRetN, xOf, mSkip, mExp, mSet, mSetF, shareE, mSetT, store, kill, mAnd, mOr, mNot, mAndV, mOrV, mNotV, mIte, mLst, mTup, mApp, pVar, atP, subS, setS, okE, Sh.beq, mPut, mIsN, mNotN, isNon, mIsi, mIsB, mNotB, mSl, oSo, oNo, elemsL, elemsR, mCL, mCLL, mCIL, mCI, mFrz, mAug, mBrk, mCnt, mPop, mRevL, iSq, iR1, iR2, iEn, iZp, iRv, ownB, wipeE, mYes, gs0, ss0, gs1, ss1, gs2, ss2, gs3, ss3, gs4, ss4, gs5, ss5, gs6, ss6, gs7, ss7, gs8, ss8, gs9, ss9, gs10, ss10, gs11, ss11, gs12, ss12, gs13, ss13, gs14, ss14, gs15, ss15, gs16, ss16, gs17, ss17, gs18, ss18, gs19, ss19, gs20, ss20, gs21, ss21, gs22, ss22, gs23, ss23, gs24, ss24, gs25, ss25, gs26, ss26, gs27, ss27, gs28, ss28, gs29, ss29, add_ii, sub_ii, mod_ii, div_ii, mul_ii, neg_i, lt_ii, le_ii, gt_ii, ge_ii, eq_ii, ne_ii, len_l, len_t, int_i, int_b, R.sha, ix_t0, ix_t1, ix_t2, ix_t3, eq_ss, ne_ss, eq_bb, ne_bb, e1, lateD, e2, paperD, psD, tgN, tgT, tgs, unS]
    exact runF_rt (n := 5) rfl c2
  | some t =>
    obtain ⟨rfl, hk⟩ := hL
    obtain ⟨c, v4, h1, h2, h3, h4⟩ := verdict_loop ns told i ht (fun m k q1 q2 => (hT.rng m k (by omega) q1).1)
    refine ⟨.full c i, ?_, (fun qs e => by cases e), full_of_told hg hT hk h2 h3 h4⟩
    have hok : okR (i : Int) = true := by simp [okR]; omega
    have c1 : mFor (iR1 (mVar 2)) (tgN 4) l1_law_verdict [some (.s, .list (ns.map noteD)), some (.s, .list (told.map oD)), some (.s, .int i), some (.s, .int i), none] = _ := mFor_of (by simp -implicitDefEqProofs (disch := omega) [mSeq, mIfS, mTv, mTr, truD, m2, m1, m3, mVar, mC, mCS, mCall, mCons, mNil, rdS, asB, asI, mRet, mRetN, xOf, mSkip, mExp, mSet, mSetF, shareE, mSetT, store, kill, mAnd, mOr, mNot, mAndV, mOrV, mNotV, mIte, mLst, mTup, mApp, pVar, atP, subS, setS, okE, Sh.beq, mPut, mIsN, mNotN, isNon, mIsi, mIsB, mNotB, mSl, oSo, oNo, elemsL, elemsR, mCL, mCLL, mCIL, mCI, mFrz, mAug, mBrk, mCnt, mPop, mRevL, iSq, iR1, iR2, iEn, iZp, iRv, ownB, wipeE, mYes, gs0, ss0, gs1, ss1, gs2, ss2, gs3, ss3, gs4, ss4, gs5, ss5, gs6, ss6, gs7, ss7, gs8, ss8, gs9, ss9, gs10, ss10, gs11, ss11, gs12, ss12, gs13, ss13, gs14, ss14, gs15, ss15, gs16, ss16, gs17, ss17, gs18, ss18, gs19, ss19, gs20, ss20, gs21, ss21, gs22, ss22, gs23, ss23, gs24, ss24, gs25, ss25, gs26, ss26, gs27, ss27, gs28, ss28, gs29, ss29, add_ii, sub_ii, mod_ii, div_ii, mul_ii, neg_i, lt_ii, le_ii, gt_ii, ge_ii, eq_ii, ne_ii, len_l, len_t, int_i, int_b, R.sha, ix_t0, ix_t1, ix_t2, ix_t3, eq_ss, ne_ss, eq_bb, ne_bb, hok]) h1
    have c2 : b_law_verdict [some (.s, .list (ns.map noteD)), none, none, none, none] = some (.rt .s (paperD (.full c i))) := by
      unfold b_law_verdict
      simp -implicitDefEqProofs (disch := omega) [mSeq, mIfS, mTv, mTr, truD, m2, m1, m3, mVar, mC, mCS, mCall, mCons, mNil, rdS, asB, asI, mRet, mRetN, xOf, mSkip, mExp, mSet, mSetF, shareE, mSetT, store, kill, mAnd, mOr, mNot, mAndV, mOrV, mNotV, mIte, mLst, mTup, mApp, pVar, atP, subS, setS, okE, Sh.beq, mPut, mIsN, mNotN, isNon, mIsi, mIsB, mNotB, mSl, oSo, oNo, elemsL, elemsR, mCL, mCLL, mCIL, mCI, mFrz, mAug, mBrk, mCnt, mPop, mRevL, iSq, iR1, iR2, iEn, iZp, iRv, ownB, wipeE, mYes, gs0, ss0, gs1, ss1, gs2, ss2, gs3, ss3, gs4, ss4, gs5, ss5, gs6, ss6, gs7, ss7, gs8, ss8, gs9, ss9, gs10, ss10, gs11, ss11, gs12, ss12, gs13, ss13, gs14, ss14, gs15, ss15, gs16, ss16, gs17, ss17, gs18, ss18, gs19, ss19, gs20, ss20, gs21, ss21, gs22, ss22, gs23, ss23, gs24, ss24, gs25, ss25, gs26, ss26, gs27, ss27, gs28, ss28, gs29, ss29, add_ii, sub_ii, mod_ii, div_ii, mul_ii, neg_i, lt_ii, le_ii, gt_ii, ge_ii, eq_ii, ne_ii, len_l, len_t, int_i, int_b, R.sha, ix_t0, ix_t1, ix_t2, ix_t3, eq_ss, ne_ss, eq_bb, ne_bb, e1, lateD, c1, paperD, tgN, tgT, tgs, unS]
    exact runF_rt (n := 5) rfl c2
end K56

set_option maxRecDepth 100000
set_option linter.all false
set_option maxHeartbeats 4000000
namespace K56
open PySem M
theorem tgT3_bind {i j k : Nat} {env : M.Env} {a b c : D} {f : Fs} (h1 : i < env.length) (h2 : j < env.length) (h3 : k < env.length) : (tgT [i, j, k] env (.tuple [a, b, c])).bind f = f (((env.set i (some (.s, a))).set j (some (.s, b))).set k (some (.s, c))) := by
  simp [tgT, unS, tgs, store, kill, h1, h2, h3]
theorem ixN_i {n : Nat} {i : Int} (h0 : 0 ≤ i) (h1 : i < n) : L2.ixN n i = some i.toNat := by
  unfold L2.ixN; rw [if_pos h0, if_pos h1]
def Good1 (ns : List Note) (ps : List Piece) (j : Nat) : Prop := POk ns (nth ps j) ∧ prevE ps j ≤ (nth ps j).b
instance (ns : List Note) (ps : List Piece) (j : Nat) : Decidable (Good1 ns ps j) := by unfold Good1; exact inferInstance
theorem plan_iff {ns : List Note} (hg : GoodNs ns) (ps : List Piece) : PlanOk ns ps ↔ (∀ j, j < ps.length → Good1 ns ps j) ∧ ∀ k, k < ns.length → heard k ps = (nth ns k).b := by
  constructor
  · intro h
    refine ⟨fun j hj => ⟨h.ok _ (nth_mem hj), ?_⟩, h.all⟩
    cases j with
    | zero =>
      obtain ⟨p1, p2, p3, p4, p5⟩ := h.ok _ (nth_mem hj)
      have := good_nth hg (k := (nth ps 0).n.toNat) (by omega)
      unfold GoodN at this
      simp only [prevE]; omega
    | succ j => exact h.ord j hj
  · intro h
    refine ⟨fun p hp => ?_, fun j hj => (h.1 (j + 1) hj).2, h.2⟩
    obtain ⟨i, hi, rfl⟩ := mem_nth hp
    exact (h.1 i hi).1
theorem accepts_body (ns : List Note) (v1 : Option (Sh × D)) (H : List Int) (now : Int) (p : Piece) (hH : H.length = ns.length) :
    l1_law_accepts [some (.s, .list (ns.map noteD)), v1, none, none, none, some (.l .s, .list (H.map .int)), some (.s, .int now), some (.s, .int p.n), some (.s, .int p.b), some (.s, .int p.e)] =
      if POk ns p ∧ now ≤ p.b then some (.nx [some (.s, .list (ns.map noteD)), v1, none, none, none, some (.l .s, .list ((H.set p.n.toNat (nth H p.n.toNat + p.e - p.b)).map .int)), some (.s, .int p.e), some (.s, .int p.n), some (.s, .int p.b), some (.s, .int p.e)])
      else some (.rt .s (.bool false)) := by
  unfold l1_law_accepts
  by_cases h1 : p.n < 0
  · rw [if_neg (by unfold POk; omega)]
    simp -implicitDefEqProofs (disch := omega) [mSeq, mIfS, mTv, mTr, truD, m2, m1, m3, mVar, mC, mCS, mCall, mCons, mNil, rdS, asB, asI, mRet, mRetN, xOf, mSkip, mExp, mSet, mSetF, shareE, mSetT, store, kill, mAnd, mOr, mNot, mAndV, mOrV, mNotV, mIte, mLst, mTup, mApp, pVar, atP, subS, setS, okE, Sh.beq, mPut, mIsN, mNotN, isNon, mIsi, mIsB, mNotB, mSl, oSo, oNo, elemsL, elemsR, mCL, mCLL, mCIL, mCI, mFrz, mAug, mBrk, mCnt, mPop, mRevL, iSq, iR1, iR2, iEn, iZp, iRv, ownB, wipeE, mYes, gs0, ss0, gs1, ss1, gs2, ss2, gs3, ss3, gs4, ss4, gs5, ss5, gs6, ss6, gs7, ss7, gs8, ss8, gs9, ss9, gs10, ss10, gs11, ss11, gs12, ss12, gs13, ss13, gs14, ss14, gs15, ss15, gs16, ss16, gs17, ss17, gs18, ss18, gs19, ss19, gs20, ss20, gs21, ss21, gs22, ss22, gs23, ss23, gs24, ss24, gs25, ss25, gs26, ss26, gs27, ss27, gs28, ss28, gs29, ss29, add_ii, sub_ii, mod_ii, div_ii, mul_ii, neg_i, lt_ii, le_ii, gt_ii, ge_ii, eq_ii, ne_ii, len_l, len_t, int_i, int_b, R.sha, ix_t0, ix_t1, ix_t2, ix_t3, eq_ss, ne_ss, eq_bb, ne_bb, h1]
  by_cases h2 : (ns.length : Int) ≤ p.n
  · rw [if_neg (by unfold POk; omega)]
    simp -implicitDefEqProofs (disch := omega) [mSeq, mIfS, mTv, mTr, truD, m2, m1, m3, mVar, mC, mCS, mCall, mCons, mNil, rdS, asB, asI, mRet, mRetN, xOf, mSkip, mExp, mSet, mSetF, shareE, mSetT, store, kill, mAnd, mOr, mNot, mAndV, mOrV, mNotV, mIte, mLst, mTup, mApp, pVar, atP, subS, setS, okE, Sh.beq, mPut, mIsN, mNotN, isNon, mIsi, mIsB, mNotB, mSl, oSo, oNo, elemsL, elemsR, mCL, mCLL, mCIL, mCI, mFrz, mAug, mBrk, mCnt, mPop, mRevL, iSq, iR1, iR2, iEn, iZp, iRv, ownB, wipeE, mYes, gs0, ss0, gs1, ss1, gs2, ss2, gs3, ss3, gs4, ss4, gs5, ss5, gs6, ss6, gs7, ss7, gs8, ss8, gs9, ss9, gs10, ss10, gs11, ss11, gs12, ss12, gs13, ss13, gs14, ss14, gs15, ss15, gs16, ss16, gs17, ss17, gs18, ss18, gs19, ss19, gs20, ss20, gs21, ss21, gs22, ss22, gs23, ss23, gs24, ss24, gs25, ss25, gs26, ss26, gs27, ss27, gs28, ss28, gs29, ss29, add_ii, sub_ii, mod_ii, div_ii, mul_ii, neg_i, lt_ii, le_ii, gt_ii, ge_ii, eq_ii, ne_ii, len_l, len_t, int_i, int_b, R.sha, ix_t0, ix_t1, ix_t2, ix_t3, eq_ss, ne_ss, eq_bb, ne_bb, h1, h2]
  by_cases h3 : p.e ≤ p.b
  · rw [if_neg (by unfold POk; omega)]
    simp -implicitDefEqProofs (disch := omega) [mSeq, mIfS, mTv, mTr, truD, m2, m1, m3, mVar, mC, mCS, mCall, mCons, mNil, rdS, asB, asI, mRet, mRetN, xOf, mSkip, mExp, mSet, mSetF, shareE, mSetT, store, kill, mAnd, mOr, mNot, mAndV, mOrV, mNotV, mIte, mLst, mTup, mApp, pVar, atP, subS, setS, okE, Sh.beq, mPut, mIsN, mNotN, isNon, mIsi, mIsB, mNotB, mSl, oSo, oNo, elemsL, elemsR, mCL, mCLL, mCIL, mCI, mFrz, mAug, mBrk, mCnt, mPop, mRevL, iSq, iR1, iR2, iEn, iZp, iRv, ownB, wipeE, mYes, gs0, ss0, gs1, ss1, gs2, ss2, gs3, ss3, gs4, ss4, gs5, ss5, gs6, ss6, gs7, ss7, gs8, ss8, gs9, ss9, gs10, ss10, gs11, ss11, gs12, ss12, gs13, ss13, gs14, ss14, gs15, ss15, gs16, ss16, gs17, ss17, gs18, ss18, gs19, ss19, gs20, ss20, gs21, ss21, gs22, ss22, gs23, ss23, gs24, ss24, gs25, ss25, gs26, ss26, gs27, ss27, gs28, ss28, gs29, ss29, add_ii, sub_ii, mod_ii, div_ii, mul_ii, neg_i, lt_ii, le_ii, gt_ii, ge_ii, eq_ii, ne_ii, len_l, len_t, int_i, int_b, R.sha, ix_t0, ix_t1, ix_t2, ix_t3, eq_ss, ne_ss, eq_bb, ne_bb, h1, h2, h3]
  by_cases h4 : p.b < now
  · rw [if_neg (by unfold POk; omega)]
    simp -implicitDefEqProofs (disch := omega) [mSeq, mIfS, mTv, mTr, truD, m2, m1, m3, mVar, mC, mCS, mCall, mCons, mNil, rdS, asB, asI, mRet, mRetN, xOf, mSkip, mExp, mSet, mSetF, shareE, mSetT, store, kill, mAnd, mOr, mNot, mAndV, mOrV, mNotV, mIte, mLst, mTup, mApp, pVar, atP, subS, setS, okE, Sh.beq, mPut, mIsN, mNotN, isNon, mIsi, mIsB, mNotB, mSl, oSo, oNo, elemsL, elemsR, mCL, mCLL, mCIL, mCI, mFrz, mAug, mBrk, mCnt, mPop, mRevL, iSq, iR1, iR2, iEn, iZp, iRv, ownB, wipeE, mYes, gs0, ss0, gs1, ss1, gs2, ss2, gs3, ss3, gs4, ss4, gs5, ss5, gs6, ss6, gs7, ss7, gs8, ss8, gs9, ss9, gs10, ss10, gs11, ss11, gs12, ss12, gs13, ss13, gs14, ss14, gs15, ss15, gs16, ss16, gs17, ss17, gs18, ss18, gs19, ss19, gs20, ss20, gs21, ss21, gs22, ss22, gs23, ss23, gs24, ss24, gs25, ss25, gs26, ss26, gs27, ss27, gs28, ss28, gs29, ss29, add_ii, sub_ii, mod_ii, div_ii, mul_ii, neg_i, lt_ii, le_ii, gt_ii, ge_ii, eq_ii, ne_ii, len_l, len_t, int_i, int_b, R.sha, ix_t0, ix_t1, ix_t2, ix_t3, eq_ss, ne_ss, eq_bb, ne_bb, h1, h2, h3, h4]
  by_cases h5 : p.b < (nth ns p.n.toNat).a
  · rw [if_neg (by unfold POk; omega)]
    simp -implicitDefEqProofs (disch := omega) [mSeq, mIfS, mTv, mTr, truD, m2, m1, m3, mVar, mC, mCS, mCall, mCons, mNil, rdS, asB, asI, mRet, mRetN, xOf, mSkip, mExp, mSet, mSetF, shareE, mSetT, store, kill, mAnd, mOr, mNot, mAndV, mOrV, mNotV, mIte, mLst, mTup, mApp, pVar, atP, subS, setS, okE, Sh.beq, mPut, mIsN, mNotN, isNon, mIsi, mIsB, mNotB, mSl, oSo, oNo, elemsL, elemsR, mCL, mCLL, mCIL, mCI, mFrz, mAug, mBrk, mCnt, mPop, mRevL, iSq, iR1, iR2, iEn, iZp, iRv, ownB, wipeE, mYes, gs0, ss0, gs1, ss1, gs2, ss2, gs3, ss3, gs4, ss4, gs5, ss5, gs6, ss6, gs7, ss7, gs8, ss8, gs9, ss9, gs10, ss10, gs11, ss11, gs12, ss12, gs13, ss13, gs14, ss14, gs15, ss15, gs16, ss16, gs17, ss17, gs18, ss18, gs19, ss19, gs20, ss20, gs21, ss21, gs22, ss22, gs23, ss23, gs24, ss24, gs25, ss25, gs26, ss26, gs27, ss27, gs28, ss28, gs29, ss29, add_ii, sub_ii, mod_ii, div_ii, mul_ii, neg_i, lt_ii, le_ii, gt_ii, ge_ii, eq_ii, ne_ii, len_l, len_t, int_i, int_b, R.sha, ix_t0, ix_t1, ix_t2, ix_t3, eq_ss, ne_ss, eq_bb, ne_bb, h1, h2, h3, h4, h5, ix_mS, noteD]
  by_cases h6 : (nth ns p.n.toNat).d < p.e
  · rw [if_neg (by unfold POk; omega)]
    simp -implicitDefEqProofs (disch := omega) [mSeq, mIfS, mTv, mTr, truD, m2, m1, m3, mVar, mC, mCS, mCall, mCons, mNil, rdS, asB, asI, mRet, mRetN, xOf, mSkip, mExp, mSet, mSetF, shareE, mSetT, store, kill, mAnd, mOr, mNot, mAndV, mOrV, mNotV, mIte, mLst, mTup, mApp, pVar, atP, subS, setS, okE, Sh.beq, mPut, mIsN, mNotN, isNon, mIsi, mIsB, mNotB, mSl, oSo, oNo, elemsL, elemsR, mCL, mCLL, mCIL, mCI, mFrz, mAug, mBrk, mCnt, mPop, mRevL, iSq, iR1, iR2, iEn, iZp, iRv, ownB, wipeE, mYes, gs0, ss0, gs1, ss1, gs2, ss2, gs3, ss3, gs4, ss4, gs5, ss5, gs6, ss6, gs7, ss7, gs8, ss8, gs9, ss9, gs10, ss10, gs11, ss11, gs12, ss12, gs13, ss13, gs14, ss14, gs15, ss15, gs16, ss16, gs17, ss17, gs18, ss18, gs19, ss19, gs20, ss20, gs21, ss21, gs22, ss22, gs23, ss23, gs24, ss24, gs25, ss25, gs26, ss26, gs27, ss27, gs28, ss28, gs29, ss29, add_ii, sub_ii, mod_ii, div_ii, mul_ii, neg_i, lt_ii, le_ii, gt_ii, ge_ii, eq_ii, ne_ii, len_l, len_t, int_i, int_b, R.sha, ix_t0, ix_t1, ix_t2, ix_t3, eq_ss, ne_ss, eq_bb, ne_bb, h1, h2, h3, h4, h5, h6, ix_mS, noteD]
  rw [if_pos (by unfold POk; omega)]
  have e1 : L2.ixN ns.length p.n = some p.n.toNat := ixN_i (by omega) (by omega)
  simp -implicitDefEqProofs (disch := omega) [mSeq, mIfS, mTv, mTr, truD, m2, m1, m3, mVar, mC, mCS, mCall, mCons, mNil, rdS, asB, asI, mRet, mRetN, xOf, mSkip, mExp, mSet, mSetF, shareE, mSetT, store, kill, mAnd, mOr, mNot, mAndV, mOrV, mNotV, mIte, mLst, mTup, mApp, pVar, atP, subS, setS, okE, Sh.beq, mPut, mIsN, mNotN, isNon, mIsi, mIsB, mNotB, mSl, oSo, oNo, elemsL, elemsR, mCL, mCLL, mCIL, mCI, mFrz, mAug, mBrk, mCnt, mPop, mRevL, iSq, iR1, iR2, iEn, iZp, iRv, ownB, wipeE, mYes, gs0, ss0, gs1, ss1, gs2, ss2, gs3, ss3, gs4, ss4, gs5, ss5, gs6, ss6, gs7, ss7, gs8, ss8, gs9, ss9, gs10, ss10, gs11, ss11, gs12, ss12, gs13, ss13, gs14, ss14, gs15, ss15, gs16, ss16, gs17, ss17, gs18, ss18, gs19, ss19, gs20, ss20, gs21, ss21, gs22, ss22, gs23, ss23, gs24, ss24, gs25, ss25, gs26, ss26, gs27, ss27, gs28, ss28, gs29, ss29, add_ii, sub_ii, mod_ii, div_ii, mul_ii, neg_i, lt_ii, le_ii, gt_ii, ge_ii, eq_ii, ne_ii, len_l, len_t, int_i, int_b, R.sha, ix_t0, ix_t1, ix_t2, ix_t3, eq_ss, ne_ss, eq_bb, ne_bb, h1, h2, h3, h4, h5, h6, ix_mS, ix_mL, noteD, hH, e1, List.map_set]
theorem heard_set {ns : List Note} {ps : List Piece} {H : List Int} {i : Nat} (hi : i < ps.length) (hH : H.length = ns.length) (hv : ∀ k, k < ns.length → nth H k = heard k (ps.take i)) (hp : POk ns (nth ps i)) :
    ∀ k, k < ns.length → nth (H.set (nth ps i).n.toNat (nth H (nth ps i).n.toNat + (nth ps i).e - (nth ps i).b)) k = heard k (ps.take (i + 1)) := by
  intro k hk
  obtain ⟨p1, p2, _⟩ := hp
  rw [nth_set (by omega), heard_take hi, ← hv k hk]
  by_cases e : (nth ps i).n.toNat = k
  · have e2 : (nth ps i).n = (k : Int) := by omega
    rw [if_pos e, if_pos e2, e]; omega
  · have e2 : ¬ (nth ps i).n = (k : Int) := by omega
    rw [if_neg e, if_neg e2]; omega
theorem accepts_loop (ns : List Note) (v1 : Option (Sh × D)) (ps : List Piece) (H0 : List Int) (hH0 : H0.length = ns.length) (hz : ∀ k, k < ns.length → nth H0 k = 0) :
    (∃ H now v7 v8 v9, forL (fun d e => (tgT [7, 8, 9] e d).bind l1_law_accepts) (ps.map pieceD) [some (.s, .list (ns.map noteD)), v1, none, none, none, some (.l .s, .list (H0.map .int)), some (.s, .int 0), none, none, none] =
      some (.nx [some (.s, .list (ns.map noteD)), v1, none, none, none, some (.l .s, .list (H.map .int)), now, v7, v8, v9]) ∧ H.length = ns.length ∧ (∀ k, k < ns.length → nth H k = heard k ps) ∧ ∀ j, j < ps.length → Good1 ns ps j) ∨
    (forL (fun d e => (tgT [7, 8, 9] e d).bind l1_law_accepts) (ps.map pieceD) [some (.s, .list (ns.map noteD)), v1, none, none, none, some (.l .s, .list (H0.map .int)), some (.s, .int 0), none, none, none] = some (.rt .s (.bool false)) ∧ ∃ j, j < ps.length ∧ ¬ Good1 ns ps j) := by
  have := forL_inv' (b := fun d e => (tgT [7, 8, 9] e d).bind l1_law_accepts) (ds := ps.map pieceD) (env := [some (.s, .list (ns.map noteD)), v1, none, none, none, some (.l .s, .list (H0.map .int)), some (.s, .int 0), none, none, none])
    (fun i e => ∃ H v7 v8 v9, e = [some (.s, .list (ns.map noteD)), v1, none, none, none, some (.l .s, .list (H.map .int)), some (.s, .int (prevE ps i)), v7, v8, v9] ∧ H.length = ns.length ∧ (∀ k, k < ns.length → nth H k = heard k (ps.take i)) ∧ ∀ j, j < i → Good1 ns ps j)
    (fun s r => s = .s ∧ r = .bool false ∧ ∃ j, j < ps.length ∧ ¬ Good1 ns ps j) (fun _ => False)
    ⟨H0, none, none, none, rfl, hH0, fun k hk => by rw [hz k hk]; simp [heard], fun j hj => by omega⟩ (by
      rintro i d e hd ⟨H, v7, v8, v9, rfl, hH, hv, hgd⟩
      rw [List.getElem?_map] at hd
      have hi : i < ps.length := by
        rcases (by omega : i < ps.length ∨ ps.length ≤ i) with q | q
        · exact q
        · rw [List.getElem?_eq_none q] at hd; cases hd
      rw [nth_get hi] at hd
      cases hd
      have hb := accepts_body ns v1 H (prevE ps i) (nth ps i) hH
      have hs := (tgT3_bind (f := l1_law_accepts) (env := [some (.s, .list (ns.map noteD)), v1, none, none, none, some (.l .s, .list (H.map .int)), some (.s, .int (prevE ps i)), v7, v8, v9]) (i := 7) (j := 8) (k := 9) (a := .int (nth ps i).n) (b := .int (nth ps i).b) (c := .int (nth ps i).e) (by decide : 7 < 10) (by decide : 8 < 10) (by decide : 9 < 10)).trans hb
      by_cases hgi : Good1 ns ps i
      · rw [if_pos (show POk ns (nth ps i) ∧ prevE ps i ≤ (nth ps i).b from hgi)] at hs
        refine .inl ⟨_, .inl hs, _, _, _, _, rfl, by rw [List.length_set]; exact hH, heard_set hi hH hv hgi.1, fun j hj => ?_⟩
        by_cases e : j = i
        · subst e; exact hgi
        · exact hgd j (by omega)
      · rw [if_neg (show ¬ (POk ns (nth ps i) ∧ prevE ps i ≤ (nth ps i).b) from hgi)] at hs
        exact .inr (.inl ⟨_, _, hs, rfl, rfl, i, hi, hgi⟩))
  rcases this with ⟨e', h1, h2⟩ | ⟨s, r, h1, rfl, rfl, h2⟩
  · rcases h2 with ⟨H, v7, v8, v9, rfl, a, b, c⟩ | h2
    · rw [List.length_map] at b c
      rw [List.take_length] at b
      exact .inl ⟨H, _, v7, v8, v9, h1, a, b, c⟩
    · exact h2.elim
  · exact .inr ⟨h1, h2⟩
theorem zeros (ns : List Note) : ∀ k, k < ns.length → nth (ns.map fun _ => (0 : Int)) k = 0 := fun k hk => nth_map hk
theorem list_eq {ns : List Note} {H : List Int} (h : H.length = ns.length) : H = ns.map Note.b ↔ ∀ k, k < ns.length → nth H k = (nth ns k).b := by
  constructor
  · rintro rfl k hk; exact nth_map hk
  · intro hk
    apply List.ext_getElem
    · simpa using h
    · intro i h1 h2
      have := hk i (by omega)
      rw [nth_of (List.getElem?_eq_getElem h1), nth_of (List.getElem?_eq_getElem (by omega))] at this
      simpa using this
end K56

set_option maxRecDepth 100000
set_option linter.all false
set_option maxHeartbeats 4000000
namespace K56
open PySem M
theorem st1 : (("plan" : Str) = ("full" : Str)) = False := eq_false (by decide)
theorem st2 : (("full" : Str) = ("plan" : Str)) = False := eq_false (by decide)
theorem st3 : (("plans" : Str) = ("plan" : Str)) = False := eq_false (by decide)
theorem st4 : (("fuller" : Str) = ("full" : Str)) = False := eq_false (by decide)
theorem st5 : (("plans" : Str) = ("full" : Str)) = False := eq_false (by decide)
theorem st6 : (("fuller" : Str) = ("plan" : Str)) = False := eq_false (by decide)
theorem accepts_full (ns : List Note) (hg : GoodNs ns) (s t : Int) : ∃ k : Bool, m_law_accepts [.list (ns.map noteD), paperD (.full s t)] = some (.s, .bool k) ∧ (k = true ↔ FullOk ns s t) := by
  have hn8 := hg.2.1
  have c1 : ∀ v1, mLc (.s) (iSq (mVar 0)) [4] (tgN 4) (mAnd (mTv (m2 gGe (m2 gIx (mVar 4) (mC (.int 0))) (mVar 2))) (mTv (m2 gLe (m2 gIx (mVar 4) (mC (.int 1))) (mVar 3)))) (m2 gIx (mVar 4) (mC (.int 2))) [some (.s, .list (ns.map noteD)), v1, some (.s, .int s), some (.s, .int t), none, none, none, none, none, none] = some ⟨.l .s, .list ((ns.filter fun n => decide (s ≤ n.a) && decide (n.d ≤ t)).map fun n => PyData.int n.b), []⟩ := by
    intro v1
    refine mLc_f (b := false) noteD ns _ _ ?_ (by omega) ?_
    · simp -implicitDefEqProofs (disch := omega) [mSeq, mIfS, mTv, mTr, truD, m2, m1, m3, mVar, mC, mCS, mCall, mCons, mNil, rdS, asB, asI, mRet, mRetN, xOf, mSkip, mExp, mSet, mSetF, shareE, mSetT, store, kill, mAnd, mOr, mNot, mAndV, mOrV, mNotV, mIte, mLst, mTup, mApp, pVar, atP, subS, setS, okE, Sh.beq, mPut, mIsN, mNotN, isNon, mIsi, mIsB, mNotB, mSl, oSo, oNo, elemsL, elemsR, mCL, mCLL, mCIL, mCI, mFrz, mAug, mBrk, mCnt, mPop, mRevL, iSq, iR1, iR2, iEn, iZp, iRv, ownB, wipeE, mYes, gs0, ss0, gs1, ss1, gs2, ss2, gs3, ss3, gs4, ss4, gs5, ss5, gs6, ss6, gs7, ss7, gs8, ss8, gs9, ss9, gs10, ss10, gs11, ss11, gs12, ss12, gs13, ss13, gs14, ss14, gs15, ss15, gs16, ss16, gs17, ss17, gs18, ss18, gs19, ss19, gs20, ss20, gs21, ss21, gs22, ss22, gs23, ss23, gs24, ss24, gs25, ss25, gs26, ss26, gs27, ss27, gs28, ss28, gs29, ss29, add_ii, sub_ii, mod_ii, div_ii, mul_ii, neg_i, lt_ii, le_ii, gt_ii, ge_ii, eq_ii, ne_ii, len_l, len_t, int_i, int_b, R.sha, ix_t0, ix_t1, ix_t2, ix_t3, eq_ss, ne_ss, eq_bb, ne_bb, ]
    · intro n hn
      refine ⟨_, rfl, ?_, fun _ => ⟨.s, ?_⟩⟩
      · simp -implicitDefEqProofs (disch := omega) [mSeq, mIfS, mTv, mTr, truD, m2, m1, m3, mVar, mC, mCS, mCall, mCons, mNil, rdS, asB, asI, mRet, mRetN, xOf, mSkip, mExp, mSet, mSetF, shareE, mSetT, store, kill, mAnd, mOr, mNot, mAndV, mOrV, mNotV, mIte, mLst, mTup, mApp, pVar, atP, subS, setS, okE, Sh.beq, mPut, mIsN, mNotN, isNon, mIsi, mIsB, mNotB, mSl, oSo, oNo, elemsL, elemsR, mCL, mCLL, mCIL, mCI, mFrz, mAug, mBrk, mCnt, mPop, mRevL, iSq, iR1, iR2, iEn, iZp, iRv, ownB, wipeE, mYes, gs0, ss0, gs1, ss1, gs2, ss2, gs3, ss3, gs4, ss4, gs5, ss5, gs6, ss6, gs7, ss7, gs8, ss8, gs9, ss9, gs10, ss10, gs11, ss11, gs12, ss12, gs13, ss13, gs14, ss14, gs15, ss15, gs16, ss16, gs17, ss17, gs18, ss18, gs19, ss19, gs20, ss20, gs21, ss21, gs22, ss22, gs23, ss23, gs24, ss24, gs25, ss25, gs26, ss26, gs27, ss27, gs28, ss28, gs29, ss29, add_ii, sub_ii, mod_ii, div_ii, mul_ii, neg_i, lt_ii, le_ii, gt_ii, ge_ii, eq_ii, ne_ii, len_l, len_t, int_i, int_b, R.sha, ix_t0, ix_t1, ix_t2, ix_t3, eq_ss, ne_ss, eq_bb, ne_bb, noteD]
        by_cases q : s ≤ n.a <;> simp [q]
      · simp -implicitDefEqProofs (disch := omega) [mSeq, mIfS, mTv, mTr, truD, m2, m1, m3, mVar, mC, mCS, mCall, mCons, mNil, rdS, asB, asI, mRet, mRetN, xOf, mSkip, mExp, mSet, mSetF, shareE, mSetT, store, kill, mAnd, mOr, mNot, mAndV, mOrV, mNotV, mIte, mLst, mTup, mApp, pVar, atP, subS, setS, okE, Sh.beq, mPut, mIsN, mNotN, isNon, mIsi, mIsB, mNotB, mSl, oSo, oNo, elemsL, elemsR, mCL, mCLL, mCIL, mCI, mFrz, mAug, mBrk, mCnt, mPop, mRevL, iSq, iR1, iR2, iEn, iZp, iRv, ownB, wipeE, mYes, gs0, ss0, gs1, ss1, gs2, ss2, gs3, ss3, gs4, ss4, gs5, ss5, gs6, ss6, gs7, ss7, gs8, ss8, gs9, ss9, gs10, ss10, gs11, ss11, gs12, ss12, gs13, ss13, gs14, ss14, gs15, ss15, gs16, ss16, gs17, ss17, gs18, ss18, gs19, ss19, gs20, ss20, gs21, ss21, gs22, ss22, gs23, ss23, gs24, ss24, gs25, ss25, gs26, ss26, gs27, ss27, gs28, ss28, gs29, ss29, add_ii, sub_ii, mod_ii, div_ii, mul_ii, neg_i, lt_ii, le_ii, gt_ii, ge_ii, eq_ii, ne_ii, len_l, len_t, int_i, int_b, R.sha, ix_t0, ix_t1, ix_t2, ix_t3, eq_ss, ne_ss, eq_bb, ne_bb, noteD]
  have c2 := sum_f Note.b (ns.filter fun n => decide (s ≤ n.a) && decide (n.d ≤ t))
  have hdm : ((ns.filter fun n => decide (s ≤ n.a) && decide (n.d ≤ t)).map Note.b).sum = demand ns s t := rfl
  rw [hdm] at c2
  refine ⟨decide (FullOk ns s t), ?_, by simp⟩
  have c3 : b_law_accepts [some (.s, .list (ns.map noteD)), some (.s, .tuple [.str "full", .int s, .int t]), none, none, none, none, none, none, none, none] = some (.rt .s (.bool (decide (FullOk ns s t)))) := by
    unfold b_law_accepts FullOk
    by_cases q1 : 0 ≤ s
    · by_cases q2 : s < t
      · simp -implicitDefEqProofs (disch := omega) [mSeq, mIfS, mTv, mTr, truD, m2, m1, m3, mVar, mC, mCS, mCall, mCons, mNil, rdS, asB, asI, mRet, mRetN, xOf, mSkip, mExp, mSet, mSetF, shareE, mSetT, store, kill, mAnd, mOr, mNot, mAndV, mOrV, mNotV, mIte, mLst, mTup, mApp, pVar, atP, subS, setS, okE, Sh.beq, mPut, mIsN, mNotN, isNon, mIsi, mIsB, mNotB, mSl, oSo, oNo, elemsL, elemsR, mCL, mCLL, mCIL, mCI, mFrz, mAug, mBrk, mCnt, mPop, mRevL, iSq, iR1, iR2, iEn, iZp, iRv, ownB, wipeE, mYes, gs0, ss0, gs1, ss1, gs2, ss2, gs3, ss3, gs4, ss4, gs5, ss5, gs6, ss6, gs7, ss7, gs8, ss8, gs9, ss9, gs10, ss10, gs11, ss11, gs12, ss12, gs13, ss13, gs14, ss14, gs15, ss15, gs16, ss16, gs17, ss17, gs18, ss18, gs19, ss19, gs20, ss20, gs21, ss21, gs22, ss22, gs23, ss23, gs24, ss24, gs25, ss25, gs26, ss26, gs27, ss27, gs28, ss28, gs29, ss29, add_ii, sub_ii, mod_ii, div_ii, mul_ii, neg_i, lt_ii, le_ii, gt_ii, ge_ii, eq_ii, ne_ii, len_l, len_t, int_i, int_b, R.sha, ix_t0, ix_t1, ix_t2, ix_t3, eq_ss, ne_ss, eq_bb, ne_bb, q1, q2, c1, c2]
      · simp -implicitDefEqProofs (disch := omega) [mSeq, mIfS, mTv, mTr, truD, m2, m1, m3, mVar, mC, mCS, mCall, mCons, mNil, rdS, asB, asI, mRet, mRetN, xOf, mSkip, mExp, mSet, mSetF, shareE, mSetT, store, kill, mAnd, mOr, mNot, mAndV, mOrV, mNotV, mIte, mLst, mTup, mApp, pVar, atP, subS, setS, okE, Sh.beq, mPut, mIsN, mNotN, isNon, mIsi, mIsB, mNotB, mSl, oSo, oNo, elemsL, elemsR, mCL, mCLL, mCIL, mCI, mFrz, mAug, mBrk, mCnt, mPop, mRevL, iSq, iR1, iR2, iEn, iZp, iRv, ownB, wipeE, mYes, gs0, ss0, gs1, ss1, gs2, ss2, gs3, ss3, gs4, ss4, gs5, ss5, gs6, ss6, gs7, ss7, gs8, ss8, gs9, ss9, gs10, ss10, gs11, ss11, gs12, ss12, gs13, ss13, gs14, ss14, gs15, ss15, gs16, ss16, gs17, ss17, gs18, ss18, gs19, ss19, gs20, ss20, gs21, ss21, gs22, ss22, gs23, ss23, gs24, ss24, gs25, ss25, gs26, ss26, gs27, ss27, gs28, ss28, gs29, ss29, add_ii, sub_ii, mod_ii, div_ii, mul_ii, neg_i, lt_ii, le_ii, gt_ii, ge_ii, eq_ii, ne_ii, len_l, len_t, int_i, int_b, R.sha, ix_t0, ix_t1, ix_t2, ix_t3, eq_ss, ne_ss, eq_bb, ne_bb, q1, q2, c1, c2]
    · simp -implicitDefEqProofs (disch := omega) [mSeq, mIfS, mTv, mTr, truD, m2, m1, m3, mVar, mC, mCS, mCall, mCons, mNil, rdS, asB, asI, mRet, mRetN, xOf, mSkip, mExp, mSet, mSetF, shareE, mSetT, store, kill, mAnd, mOr, mNot, mAndV, mOrV, mNotV, mIte, mLst, mTup, mApp, pVar, atP, subS, setS, okE, Sh.beq, mPut, mIsN, mNotN, isNon, mIsi, mIsB, mNotB, mSl, oSo, oNo, elemsL, elemsR, mCL, mCLL, mCIL, mCI, mFrz, mAug, mBrk, mCnt, mPop, mRevL, iSq, iR1, iR2, iEn, iZp, iRv, ownB, wipeE, mYes, gs0, ss0, gs1, ss1, gs2, ss2, gs3, ss3, gs4, ss4, gs5, ss5, gs6, ss6, gs7, ss7, gs8, ss8, gs9, ss9, gs10, ss10, gs11, ss11, gs12, ss12, gs13, ss13, gs14, ss14, gs15, ss15, gs16, ss16, gs17, ss17, gs18, ss18, gs19, ss19, gs20, ss20, gs21, ss21, gs22, ss22, gs23, ss23, gs24, ss24, gs25, ss25, gs26, ss26, gs27, ss27, gs28, ss28, gs29, ss29, add_ii, sub_ii, mod_ii, div_ii, mul_ii, neg_i, lt_ii, le_ii, gt_ii, ge_ii, eq_ii, ne_ii, len_l, len_t, int_i, int_b, R.sha, ix_t0, ix_t1, ix_t2, ix_t3, eq_ss, ne_ss, eq_bb, ne_bb, q1, c1, c2]
  exact runF_rt (n := 10) rfl c3
theorem accepts_plan (ns : List Note) (hg : GoodNs ns) (ps : List Piece) : ∃ k : Bool, m_law_accepts [.list (ns.map noteD), paperD (.plan ps)] = some (.s, .bool k) ∧ (k = true ↔ PlanOk ns ps) := by
  have hn8 := hg.2.1
  have c1 : ∀ v1, mLc (.s) (iSq (mVar 0)) [4] (tgN 4) (mYes) (mC (.int 0)) [some (.s, .list (ns.map noteD)), v1, none, none, none, none, none, none, none, none] = some ⟨.l .s, .list ((ns.map fun _ => (0 : Int)).map .int), []⟩ := by
    intro v1
    rw [List.map_map]
    refine mLc_a (b := false) noteD ns _ ?_ (by omega) ?_
    · simp -implicitDefEqProofs (disch := omega) [mSeq, mIfS, mTv, mTr, truD, m2, m1, m3, mVar, mC, mCS, mCall, mCons, mNil, rdS, asB, asI, mRet, mRetN, xOf, mSkip, mExp, mSet, mSetF, shareE, mSetT, store, kill, mAnd, mOr, mNot, mAndV, mOrV, mNotV, mIte, mLst, mTup, mApp, pVar, atP, subS, setS, okE, Sh.beq, mPut, mIsN, mNotN, isNon, mIsi, mIsB, mNotB, mSl, oSo, oNo, elemsL, elemsR, mCL, mCLL, mCIL, mCI, mFrz, mAug, mBrk, mCnt, mPop, mRevL, iSq, iR1, iR2, iEn, iZp, iRv, ownB, wipeE, mYes, gs0, ss0, gs1, ss1, gs2, ss2, gs3, ss3, gs4, ss4, gs5, ss5, gs6, ss6, gs7, ss7, gs8, ss8, gs9, ss9, gs10, ss10, gs11, ss11, gs12, ss12, gs13, ss13, gs14, ss14, gs15, ss15, gs16, ss16, gs17, ss17, gs18, ss18, gs19, ss19, gs20, ss20, gs21, ss21, gs22, ss22, gs23, ss23, gs24, ss24, gs25, ss25, gs26, ss26, gs27, ss27, gs28, ss28, gs29, ss29, add_ii, sub_ii, mod_ii, div_ii, mul_ii, neg_i, lt_ii, le_ii, gt_ii, ge_ii, eq_ii, ne_ii, len_l, len_t, int_i, int_b, R.sha, ix_t0, ix_t1, ix_t2, ix_t3, eq_ss, ne_ss, eq_bb, ne_bb, ]
    · intro n hn
      exact ⟨_, rfl, .s, rfl⟩
  have c2 : ∀ v1 v5 v6 v7 v8 v9, mLc (.s) (iSq (mVar 0)) [4] (tgN 4) (mYes) (m2 gIx (mVar 4) (mC (.int 2))) [some (.s, .list (ns.map noteD)), v1, none, none, none, v5, v6, v7, v8, v9] = some ⟨.l .s, .list ((ns.map Note.b).map .int), []⟩ := by
    intro v1 v5 v6 v7 v8 v9
    rw [List.map_map]
    refine mLc_a (b := false) noteD ns _ ?_ (by omega) ?_
    · simp -implicitDefEqProofs (disch := omega) [mSeq, mIfS, mTv, mTr, truD, m2, m1, m3, mVar, mC, mCS, mCall, mCons, mNil, rdS, asB, asI, mRet, mRetN, xOf, mSkip, mExp, mSet, mSetF, shareE, mSetT, store, kill, mAnd, mOr, mNot, mAndV, mOrV, mNotV, mIte, mLst, mTup, mApp, pVar, atP, subS, setS, okE, Sh.beq, mPut, mIsN, mNotN, isNon, mIsi, mIsB, mNotB, mSl, oSo, oNo, elemsL, elemsR, mCL, mCLL, mCIL, mCI, mFrz, mAug, mBrk, mCnt, mPop, mRevL, iSq, iR1, iR2, iEn, iZp, iRv, ownB, wipeE, mYes, gs0, ss0, gs1, ss1, gs2, ss2, gs3, ss3, gs4, ss4, gs5, ss5, gs6, ss6, gs7, ss7, gs8, ss8, gs9, ss9, gs10, ss10, gs11, ss11, gs12, ss12, gs13, ss13, gs14, ss14, gs15, ss15, gs16, ss16, gs17, ss17, gs18, ss18, gs19, ss19, gs20, ss20, gs21, ss21, gs22, ss22, gs23, ss23, gs24, ss24, gs25, ss25, gs26, ss26, gs27, ss27, gs28, ss28, gs29, ss29, add_ii, sub_ii, mod_ii, div_ii, mul_ii, neg_i, lt_ii, le_ii, gt_ii, ge_ii, eq_ii, ne_ii, len_l, len_t, int_i, int_b, R.sha, ix_t0, ix_t1, ix_t2, ix_t3, eq_ss, ne_ss, eq_bb, ne_bb, ]
    · intro n hn
      refine ⟨_, rfl, .s, ?_⟩
      simp -implicitDefEqProofs (disch := omega) [mSeq, mIfS, mTv, mTr, truD, m2, m1, m3, mVar, mC, mCS, mCall, mCons, mNil, rdS, asB, asI, mRet, mRetN, xOf, mSkip, mExp, mSet, mSetF, shareE, mSetT, store, kill, mAnd, mOr, mNot, mAndV, mOrV, mNotV, mIte, mLst, mTup, mApp, pVar, atP, subS, setS, okE, Sh.beq, mPut, mIsN, mNotN, isNon, mIsi, mIsB, mNotB, mSl, oSo, oNo, elemsL, elemsR, mCL, mCLL, mCIL, mCI, mFrz, mAug, mBrk, mCnt, mPop, mRevL, iSq, iR1, iR2, iEn, iZp, iRv, ownB, wipeE, mYes, gs0, ss0, gs1, ss1, gs2, ss2, gs3, ss3, gs4, ss4, gs5, ss5, gs6, ss6, gs7, ss7, gs8, ss8, gs9, ss9, gs10, ss10, gs11, ss11, gs12, ss12, gs13, ss13, gs14, ss14, gs15, ss15, gs16, ss16, gs17, ss17, gs18, ss18, gs19, ss19, gs20, ss20, gs21, ss21, gs22, ss22, gs23, ss23, gs24, ss24, gs25, ss25, gs26, ss26, gs27, ss27, gs28, ss28, gs29, ss29, add_ii, sub_ii, mod_ii, div_ii, mul_ii, neg_i, lt_ii, le_ii, gt_ii, ge_ii, eq_ii, ne_ii, len_l, len_t, int_i, int_b, R.sha, ix_t0, ix_t1, ix_t2, ix_t3, eq_ss, ne_ss, eq_bb, ne_bb, noteD]
  have hl0 : (ns.map fun _ => (0 : Int)).length = ns.length := by simp
  have hl := accepts_loop ns (some (.s, .tuple [.str "plan", psD ps])) ps (ns.map fun _ => (0 : Int)) hl0 (zeros ns)
  generalize (ns.map fun _ => (0 : Int)) = Z at *
  rcases hl with ⟨H, now, v7, v8, v9, h1, h2, h3, h4⟩ | ⟨h1, j, h2, h3⟩
  · refine ⟨decide (H = ns.map Note.b), ?_, ?_⟩
    · have c3 := eq_ints H (ns.map Note.b)
      generalize ns.map Note.b = B at *
      have c4 : mFor (iSq (m2 gIx (mVar 1) (mC (.int 1)))) (tgT [7, 8, 9]) l1_law_accepts _ = _ := mFor_of (by simp -implicitDefEqProofs (disch := omega) [mSeq, mIfS, mTv, mTr, truD, m2, m1, m3, mVar, mC, mCS, mCall, mCons, mNil, rdS, asB, asI, mRet, mRetN, xOf, mSkip, mExp, mSet, mSetF, shareE, mSetT, store, kill, mAnd, mOr, mNot, mAndV, mOrV, mNotV, mIte, mLst, mTup, mApp, pVar, atP, subS, setS, okE, Sh.beq, mPut, mIsN, mNotN, isNon, mIsi, mIsB, mNotB, mSl, oSo, oNo, elemsL, elemsR, mCL, mCLL, mCIL, mCI, mFrz, mAug, mBrk, mCnt, mPop, mRevL, iSq, iR1, iR2, iEn, iZp, iRv, ownB, wipeE, mYes, gs0, ss0, gs1, ss1, gs2, ss2, gs3, ss3, gs4, ss4, gs5, ss5, gs6, ss6, gs7, ss7, gs8, ss8, gs9, ss9, gs10, ss10, gs11, ss11, gs12, ss12, gs13, ss13, gs14, ss14, gs15, ss15, gs16, ss16, gs17, ss17, gs18, ss18, gs19, ss19, gs20, ss20, gs21, ss21, gs22, ss22, gs23, ss23, gs24, ss24, gs25, ss25, gs26, ss26, gs27, ss27, gs28, ss28, gs29, ss29, add_ii, sub_ii, mod_ii, div_ii, mul_ii, neg_i, lt_ii, le_ii, gt_ii, ge_ii, eq_ii, ne_ii, len_l, len_t, int_i, int_b, R.sha, ix_t0, ix_t1, ix_t2, ix_t3, eq_ss, ne_ss, eq_bb, ne_bb, psD]) h1
      have c5 : b_law_accepts [some (.s, .list (ns.map noteD)), some (.s, .tuple [.str "plan", psD ps]), none, none, none, none, none, none, none, none] = some (.rt .s (.bool (decide (H = B)))) := by
        unfold b_law_accepts
        simp -implicitDefEqProofs (disch := omega) [mSeq, mIfS, mTv, mTr, truD, m2, m1, m3, mVar, mC, mCS, mCall, mCons, mNil, rdS, asB, asI, mRet, mRetN, xOf, mSkip, mExp, mSet, mSetF, shareE, mSetT, store, kill, mAnd, mOr, mNot, mAndV, mOrV, mNotV, mIte, mLst, mTup, mApp, pVar, atP, subS, setS, okE, Sh.beq, mPut, mIsN, mNotN, isNon, mIsi, mIsB, mNotB, mSl, oSo, oNo, elemsL, elemsR, mCL, mCLL, mCIL, mCI, mFrz, mAug, mBrk, mCnt, mPop, mRevL, iSq, iR1, iR2, iEn, iZp, iRv, ownB, wipeE, mYes, gs0, ss0, gs1, ss1, gs2, ss2, gs3, ss3, gs4, ss4, gs5, ss5, gs6, ss6, gs7, ss7, gs8, ss8, gs9, ss9, gs10, ss10, gs11, ss11, gs12, ss12, gs13, ss13, gs14, ss14, gs15, ss15, gs16, ss16, gs17, ss17, gs18, ss18, gs19, ss19, gs20, ss20, gs21, ss21, gs22, ss22, gs23, ss23, gs24, ss24, gs25, ss25, gs26, ss26, gs27, ss27, gs28, ss28, gs29, ss29, add_ii, sub_ii, mod_ii, div_ii, mul_ii, neg_i, lt_ii, le_ii, gt_ii, ge_ii, eq_ii, ne_ii, len_l, len_t, int_i, int_b, R.sha, ix_t0, ix_t1, ix_t2, ix_t3, eq_ss, ne_ss, eq_bb, ne_bb, c1, c2, c3, c4, st1]
      exact runF_rt (n := 10) rfl c5
    · rw [decide_eq_true_eq, list_eq h2, plan_iff hg]
      exact ⟨fun q => ⟨h4, fun k hk => (h3 k hk).symm.trans (q k hk)⟩, fun q k hk => (h3 k hk).trans (q.2 k hk)⟩
  · refine ⟨false, ?_, ?_⟩
    · have c4 : mFor (iSq (m2 gIx (mVar 1) (mC (.int 1)))) (tgT [7, 8, 9]) l1_law_accepts _ = _ := mFor_of (by simp -implicitDefEqProofs (disch := omega) [mSeq, mIfS, mTv, mTr, truD, m2, m1, m3, mVar, mC, mCS, mCall, mCons, mNil, rdS, asB, asI, mRet, mRetN, xOf, mSkip, mExp, mSet, mSetF, shareE, mSetT, store, kill, mAnd, mOr, mNot, mAndV, mOrV, mNotV, mIte, mLst, mTup, mApp, pVar, atP, subS, setS, okE, Sh.beq, mPut, mIsN, mNotN, isNon, mIsi, mIsB, mNotB, mSl, oSo, oNo, elemsL, elemsR, mCL, mCLL, mCIL, mCI, mFrz, mAug, mBrk, mCnt, mPop, mRevL, iSq, iR1, iR2, iEn, iZp, iRv, ownB, wipeE, mYes, gs0, ss0, gs1, ss1, gs2, ss2, gs3, ss3, gs4, ss4, gs5, ss5, gs6, ss6, gs7, ss7, gs8, ss8, gs9, ss9, gs10, ss10, gs11, ss11, gs12, ss12, gs13, ss13, gs14, ss14, gs15, ss15, gs16, ss16, gs17, ss17, gs18, ss18, gs19, ss19, gs20, ss20, gs21, ss21, gs22, ss22, gs23, ss23, gs24, ss24, gs25, ss25, gs26, ss26, gs27, ss27, gs28, ss28, gs29, ss29, add_ii, sub_ii, mod_ii, div_ii, mul_ii, neg_i, lt_ii, le_ii, gt_ii, ge_ii, eq_ii, ne_ii, len_l, len_t, int_i, int_b, R.sha, ix_t0, ix_t1, ix_t2, ix_t3, eq_ss, ne_ss, eq_bb, ne_bb, psD]) h1
      have c5 : b_law_accepts [some (.s, .list (ns.map noteD)), some (.s, .tuple [.str "plan", psD ps]), none, none, none, none, none, none, none, none] = some (.rt .s (.bool false)) := by
        unfold b_law_accepts
        simp -implicitDefEqProofs (disch := omega) [mSeq, mIfS, mTv, mTr, truD, m2, m1, m3, mVar, mC, mCS, mCall, mCons, mNil, rdS, asB, asI, mRet, mRetN, xOf, mSkip, mExp, mSet, mSetF, shareE, mSetT, store, kill, mAnd, mOr, mNot, mAndV, mOrV, mNotV, mIte, mLst, mTup, mApp, pVar, atP, subS, setS, okE, Sh.beq, mPut, mIsN, mNotN, isNon, mIsi, mIsB, mNotB, mSl, oSo, oNo, elemsL, elemsR, mCL, mCLL, mCIL, mCI, mFrz, mAug, mBrk, mCnt, mPop, mRevL, iSq, iR1, iR2, iEn, iZp, iRv, ownB, wipeE, mYes, gs0, ss0, gs1, ss1, gs2, ss2, gs3, ss3, gs4, ss4, gs5, ss5, gs6, ss6, gs7, ss7, gs8, ss8, gs9, ss9, gs10, ss10, gs11, ss11, gs12, ss12, gs13, ss13, gs14, ss14, gs15, ss15, gs16, ss16, gs17, ss17, gs18, ss18, gs19, ss19, gs20, ss20, gs21, ss21, gs22, ss22, gs23, ss23, gs24, ss24, gs25, ss25, gs26, ss26, gs27, ss27, gs28, ss28, gs29, ss29, add_ii, sub_ii, mod_ii, div_ii, mul_ii, neg_i, lt_ii, le_ii, gt_ii, ge_ii, eq_ii, ne_ii, len_l, len_t, int_i, int_b, R.sha, ix_t0, ix_t1, ix_t2, ix_t3, eq_ss, ne_ss, eq_bb, ne_bb, c1, c4, st1]
      exact runF_rt (n := 10) rfl c5
    · rw [plan_iff hg]
      exact ⟨fun q => (by cases q), fun q => absurd (q.1 j h2) h3⟩
theorem accepts_ok (ns : List Note) (hg : GoodNs ns) (v : Paper) : ∃ k : Bool, m_law_accepts [.list (ns.map noteD), paperD v] = some (.s, .bool k) ∧ (k = true ↔ Acc ns v) := by
  have junk : ∀ d : D, b_law_accepts [some (.s, .list (ns.map noteD)), some (.s, d), none, none, none, none, none, none, none, none] = some (.rt .s (.bool false)) → ∃ k : Bool, m_law_accepts [.list (ns.map noteD), d] = some (.s, .bool k) ∧ (k = true ↔ False) :=
    fun d h => ⟨false, runF_rt (n := 10) rfl h, by simp⟩
  cases v with
  | plan ps => exact accepts_plan ns hg ps
  | full s t => exact accepts_full ns hg s t
  | full1 => refine junk _ ?_; unfold b_law_accepts; simp -implicitDefEqProofs (disch := omega) [mSeq, mIfS, mTv, mTr, truD, m2, m1, m3, mVar, mC, mCS, mCall, mCons, mNil, rdS, asB, asI, mRet, mRetN, xOf, mSkip, mExp, mSet, mSetF, shareE, mSetT, store, kill, mAnd, mOr, mNot, mAndV, mOrV, mNotV, mIte, mLst, mTup, mApp, pVar, atP, subS, setS, okE, Sh.beq, mPut, mIsN, mNotN, isNon, mIsi, mIsB, mNotB, mSl, oSo, oNo, elemsL, elemsR, mCL, mCLL, mCIL, mCI, mFrz, mAug, mBrk, mCnt, mPop, mRevL, iSq, iR1, iR2, iEn, iZp, iRv, ownB, wipeE, mYes, gs0, ss0, gs1, ss1, gs2, ss2, gs3, ss3, gs4, ss4, gs5, ss5, gs6, ss6, gs7, ss7, gs8, ss8, gs9, ss9, gs10, ss10, gs11, ss11, gs12, ss12, gs13, ss13, gs14, ss14, gs15, ss15, gs16, ss16, gs17, ss17, gs18, ss18, gs19, ss19, gs20, ss20, gs21, ss21, gs22, ss22, gs23, ss23, gs24, ss24, gs25, ss25, gs26, ss26, gs27, ss27, gs28, ss28, gs29, ss29, add_ii, sub_ii, mod_ii, div_ii, mul_ii, neg_i, lt_ii, le_ii, gt_ii, ge_ii, eq_ii, ne_ii, len_l, len_t, int_i, int_b, R.sha, ix_t0, ix_t1, ix_t2, ix_t3, eq_ss, ne_ss, eq_bb, ne_bb, paperD, st2]
  | plan3 ps => refine junk _ ?_; unfold b_law_accepts; simp -implicitDefEqProofs (disch := omega) [mSeq, mIfS, mTv, mTr, truD, m2, m1, m3, mVar, mC, mCS, mCall, mCons, mNil, rdS, asB, asI, mRet, mRetN, xOf, mSkip, mExp, mSet, mSetF, shareE, mSetT, store, kill, mAnd, mOr, mNot, mAndV, mOrV, mNotV, mIte, mLst, mTup, mApp, pVar, atP, subS, setS, okE, Sh.beq, mPut, mIsN, mNotN, isNon, mIsi, mIsB, mNotB, mSl, oSo, oNo, elemsL, elemsR, mCL, mCLL, mCIL, mCI, mFrz, mAug, mBrk, mCnt, mPop, mRevL, iSq, iR1, iR2, iEn, iZp, iRv, ownB, wipeE, mYes, gs0, ss0, gs1, ss1, gs2, ss2, gs3, ss3, gs4, ss4, gs5, ss5, gs6, ss6, gs7, ss7, gs8, ss8, gs9, ss9, gs10, ss10, gs11, ss11, gs12, ss12, gs13, ss13, gs14, ss14, gs15, ss15, gs16, ss16, gs17, ss17, gs18, ss18, gs19, ss19, gs20, ss20, gs21, ss21, gs22, ss22, gs23, ss23, gs24, ss24, gs25, ss25, gs26, ss26, gs27, ss27, gs28, ss28, gs29, ss29, add_ii, sub_ii, mod_ii, div_ii, mul_ii, neg_i, lt_ii, le_ii, gt_ii, ge_ii, eq_ii, ne_ii, len_l, len_t, int_i, int_b, R.sha, ix_t0, ix_t1, ix_t2, ix_t3, eq_ss, ne_ss, eq_bb, ne_bb, paperD, st1]
  | plans ps => refine junk _ ?_; unfold b_law_accepts; simp -implicitDefEqProofs (disch := omega) [mSeq, mIfS, mTv, mTr, truD, m2, m1, m3, mVar, mC, mCS, mCall, mCons, mNil, rdS, asB, asI, mRet, mRetN, xOf, mSkip, mExp, mSet, mSetF, shareE, mSetT, store, kill, mAnd, mOr, mNot, mAndV, mOrV, mNotV, mIte, mLst, mTup, mApp, pVar, atP, subS, setS, okE, Sh.beq, mPut, mIsN, mNotN, isNon, mIsi, mIsB, mNotB, mSl, oSo, oNo, elemsL, elemsR, mCL, mCLL, mCIL, mCI, mFrz, mAug, mBrk, mCnt, mPop, mRevL, iSq, iR1, iR2, iEn, iZp, iRv, ownB, wipeE, mYes, gs0, ss0, gs1, ss1, gs2, ss2, gs3, ss3, gs4, ss4, gs5, ss5, gs6, ss6, gs7, ss7, gs8, ss8, gs9, ss9, gs10, ss10, gs11, ss11, gs12, ss12, gs13, ss13, gs14, ss14, gs15, ss15, gs16, ss16, gs17, ss17, gs18, ss18, gs19, ss19, gs20, ss20, gs21, ss21, gs22, ss22, gs23, ss23, gs24, ss24, gs25, ss25, gs26, ss26, gs27, ss27, gs28, ss28, gs29, ss29, add_ii, sub_ii, mod_ii, div_ii, mul_ii, neg_i, lt_ii, le_ii, gt_ii, ge_ii, eq_ii, ne_ii, len_l, len_t, int_i, int_b, R.sha, ix_t0, ix_t1, ix_t2, ix_t3, eq_ss, ne_ss, eq_bb, ne_bb, paperD, st3]
  | emp => refine junk _ ?_; unfold b_law_accepts; simp -implicitDefEqProofs (disch := omega) [mSeq, mIfS, mTv, mTr, truD, m2, m1, m3, mVar, mC, mCS, mCall, mCons, mNil, rdS, asB, asI, mRet, mRetN, xOf, mSkip, mExp, mSet, mSetF, shareE, mSetT, store, kill, mAnd, mOr, mNot, mAndV, mOrV, mNotV, mIte, mLst, mTup, mApp, pVar, atP, subS, setS, okE, Sh.beq, mPut, mIsN, mNotN, isNon, mIsi, mIsB, mNotB, mSl, oSo, oNo, elemsL, elemsR, mCL, mCLL, mCIL, mCI, mFrz, mAug, mBrk, mCnt, mPop, mRevL, iSq, iR1, iR2, iEn, iZp, iRv, ownB, wipeE, mYes, gs0, ss0, gs1, ss1, gs2, ss2, gs3, ss3, gs4, ss4, gs5, ss5, gs6, ss6, gs7, ss7, gs8, ss8, gs9, ss9, gs10, ss10, gs11, ss11, gs12, ss12, gs13, ss13, gs14, ss14, gs15, ss15, gs16, ss16, gs17, ss17, gs18, ss18, gs19, ss19, gs20, ss20, gs21, ss21, gs22, ss22, gs23, ss23, gs24, ss24, gs25, ss25, gs26, ss26, gs27, ss27, gs28, ss28, gs29, ss29, add_ii, sub_ii, mod_ii, div_ii, mul_ii, neg_i, lt_ii, le_ii, gt_ii, ge_ii, eq_ii, ne_ii, len_l, len_t, int_i, int_b, R.sha, ix_t0, ix_t1, ix_t2, ix_t3, eq_ss, ne_ss, eq_bb, ne_bb, paperD]
  | plan0 => refine junk _ ?_; unfold b_law_accepts; simp -implicitDefEqProofs (disch := omega) [mSeq, mIfS, mTv, mTr, truD, m2, m1, m3, mVar, mC, mCS, mCall, mCons, mNil, rdS, asB, asI, mRet, mRetN, xOf, mSkip, mExp, mSet, mSetF, shareE, mSetT, store, kill, mAnd, mOr, mNot, mAndV, mOrV, mNotV, mIte, mLst, mTup, mApp, pVar, atP, subS, setS, okE, Sh.beq, mPut, mIsN, mNotN, isNon, mIsi, mIsB, mNotB, mSl, oSo, oNo, elemsL, elemsR, mCL, mCLL, mCIL, mCI, mFrz, mAug, mBrk, mCnt, mPop, mRevL, iSq, iR1, iR2, iEn, iZp, iRv, ownB, wipeE, mYes, gs0, ss0, gs1, ss1, gs2, ss2, gs3, ss3, gs4, ss4, gs5, ss5, gs6, ss6, gs7, ss7, gs8, ss8, gs9, ss9, gs10, ss10, gs11, ss11, gs12, ss12, gs13, ss13, gs14, ss14, gs15, ss15, gs16, ss16, gs17, ss17, gs18, ss18, gs19, ss19, gs20, ss20, gs21, ss21, gs22, ss22, gs23, ss23, gs24, ss24, gs25, ss25, gs26, ss26, gs27, ss27, gs28, ss28, gs29, ss29, add_ii, sub_ii, mod_ii, div_ii, mul_ii, neg_i, lt_ii, le_ii, gt_ii, ge_ii, eq_ii, ne_ii, len_l, len_t, int_i, int_b, R.sha, ix_t0, ix_t1, ix_t2, ix_t3, eq_ss, ne_ss, eq_bb, ne_bb, paperD]
  | fuller => refine junk _ ?_; unfold b_law_accepts; simp -implicitDefEqProofs (disch := omega) [mSeq, mIfS, mTv, mTr, truD, m2, m1, m3, mVar, mC, mCS, mCall, mCons, mNil, rdS, asB, asI, mRet, mRetN, xOf, mSkip, mExp, mSet, mSetF, shareE, mSetT, store, kill, mAnd, mOr, mNot, mAndV, mOrV, mNotV, mIte, mLst, mTup, mApp, pVar, atP, subS, setS, okE, Sh.beq, mPut, mIsN, mNotN, isNon, mIsi, mIsB, mNotB, mSl, oSo, oNo, elemsL, elemsR, mCL, mCLL, mCIL, mCI, mFrz, mAug, mBrk, mCnt, mPop, mRevL, iSq, iR1, iR2, iEn, iZp, iRv, ownB, wipeE, mYes, gs0, ss0, gs1, ss1, gs2, ss2, gs3, ss3, gs4, ss4, gs5, ss5, gs6, ss6, gs7, ss7, gs8, ss8, gs9, ss9, gs10, ss10, gs11, ss11, gs12, ss12, gs13, ss13, gs14, ss14, gs15, ss15, gs16, ss16, gs17, ss17, gs18, ss18, gs19, ss19, gs20, ss20, gs21, ss21, gs22, ss22, gs23, ss23, gs24, ss24, gs25, ss25, gs26, ss26, gs27, ss27, gs28, ss28, gs29, ss29, add_ii, sub_ii, mod_ii, div_ii, mul_ii, neg_i, lt_ii, le_ii, gt_ii, ge_ii, eq_ii, ne_ii, len_l, len_t, int_i, int_b, R.sha, ix_t0, ix_t1, ix_t2, ix_t3, eq_ss, ne_ss, eq_bb, ne_bb, paperD, st4]
end K56

set_option maxRecDepth 100000
set_option linter.all false
set_option maxHeartbeats 4000000
namespace K56
open PySem M
theorem is_piece_m (ns : List Note) (p : Piece) : m_is_piece [.list (ns.map noteD), pieceD p] = some (.s, .bool (decide (POk ns p))) := by
  have c1 : b_is_piece [some (.s, .list (ns.map noteD)), some (.s, pieceD p), none, none, none] = some (.rt .s (.bool (decide (POk ns p)))) := by
    unfold b_is_piece
    have hn : ∀ q : Prop, [Decidable q] → ¬ q → decide q = false := fun q _ h => decide_eq_false h
    by_cases h1 : ¬ 0 ≤ p.n
    · rw [hn (POk ns p) (by unfold POk; omega)]
      simp -implicitDefEqProofs (disch := omega) [mSeq, mIfS, mTv, mTr, truD, m2, m1, m3, mVar, mC, mCS, mCall, mCons, mNil, rdS, asB, asI, mRet, mRetN, xOf, mSkip, mExp, mSet, mSetF, shareE, mSetT, store, kill, mAnd, mOr, mNot, mAndV, mOrV, mNotV, mIte, mLst, mTup, mApp, pVar, atP, subS, setS, okE, Sh.beq, mPut, mIsN, mNotN, isNon, mIsi, mIsB, mNotB, mSl, oSo, oNo, elemsL, elemsR, mCL, mCLL, mCIL, mCI, mFrz, mAug, mBrk, mCnt, mPop, mRevL, iSq, iR1, iR2, iEn, iZp, iRv, ownB, wipeE, mYes, gs0, ss0, gs1, ss1, gs2, ss2, gs3, ss3, gs4, ss4, gs5, ss5, gs6, ss6, gs7, ss7, gs8, ss8, gs9, ss9, gs10, ss10, gs11, ss11, gs12, ss12, gs13, ss13, gs14, ss14, gs15, ss15, gs16, ss16, gs17, ss17, gs18, ss18, gs19, ss19, gs20, ss20, gs21, ss21, gs22, ss22, gs23, ss23, gs24, ss24, gs25, ss25, gs26, ss26, gs27, ss27, gs28, ss28, gs29, ss29, add_ii, sub_ii, mod_ii, div_ii, mul_ii, neg_i, lt_ii, le_ii, gt_ii, ge_ii, eq_ii, ne_ii, len_l, len_t, int_i, int_b, R.sha, ix_t0, ix_t1, ix_t2, ix_t3, eq_ss, ne_ss, eq_bb, ne_bb, pieceD, tgN, tgT, tgs, unS, h1]
    have h1 := Decidable.not_not.mp h1
    by_cases h2 : ¬ p.n < ns.length
    · rw [hn (POk ns p) (by unfold POk; omega)]
      simp -implicitDefEqProofs (disch := omega) [mSeq, mIfS, mTv, mTr, truD, m2, m1, m3, mVar, mC, mCS, mCall, mCons, mNil, rdS, asB, asI, mRet, mRetN, xOf, mSkip, mExp, mSet, mSetF, shareE, mSetT, store, kill, mAnd, mOr, mNot, mAndV, mOrV, mNotV, mIte, mLst, mTup, mApp, pVar, atP, subS, setS, okE, Sh.beq, mPut, mIsN, mNotN, isNon, mIsi, mIsB, mNotB, mSl, oSo, oNo, elemsL, elemsR, mCL, mCLL, mCIL, mCI, mFrz, mAug, mBrk, mCnt, mPop, mRevL, iSq, iR1, iR2, iEn, iZp, iRv, ownB, wipeE, mYes, gs0, ss0, gs1, ss1, gs2, ss2, gs3, ss3, gs4, ss4, gs5, ss5, gs6, ss6, gs7, ss7, gs8, ss8, gs9, ss9, gs10, ss10, gs11, ss11, gs12, ss12, gs13, ss13, gs14, ss14, gs15, ss15, gs16, ss16, gs17, ss17, gs18, ss18, gs19, ss19, gs20, ss20, gs21, ss21, gs22, ss22, gs23, ss23, gs24, ss24, gs25, ss25, gs26, ss26, gs27, ss27, gs28, ss28, gs29, ss29, add_ii, sub_ii, mod_ii, div_ii, mul_ii, neg_i, lt_ii, le_ii, gt_ii, ge_ii, eq_ii, ne_ii, len_l, len_t, int_i, int_b, R.sha, ix_t0, ix_t1, ix_t2, ix_t3, eq_ss, ne_ss, eq_bb, ne_bb, pieceD, tgN, tgT, tgs, unS, h1, h2]
    have h2 := Decidable.not_not.mp h2
    by_cases h3 : p.e ≤ p.b
    · rw [hn (POk ns p) (by unfold POk; omega)]
      simp -implicitDefEqProofs (disch := omega) [mSeq, mIfS, mTv, mTr, truD, m2, m1, m3, mVar, mC, mCS, mCall, mCons, mNil, rdS, asB, asI, mRet, mRetN, xOf, mSkip, mExp, mSet, mSetF, shareE, mSetT, store, kill, mAnd, mOr, mNot, mAndV, mOrV, mNotV, mIte, mLst, mTup, mApp, pVar, atP, subS, setS, okE, Sh.beq, mPut, mIsN, mNotN, isNon, mIsi, mIsB, mNotB, mSl, oSo, oNo, elemsL, elemsR, mCL, mCLL, mCIL, mCI, mFrz, mAug, mBrk, mCnt, mPop, mRevL, iSq, iR1, iR2, iEn, iZp, iRv, ownB, wipeE, mYes, gs0, ss0, gs1, ss1, gs2, ss2, gs3, ss3, gs4, ss4, gs5, ss5, gs6, ss6, gs7, ss7, gs8, ss8, gs9, ss9, gs10, ss10, gs11, ss11, gs12, ss12, gs13, ss13, gs14, ss14, gs15, ss15, gs16, ss16, gs17, ss17, gs18, ss18, gs19, ss19, gs20, ss20, gs21, ss21, gs22, ss22, gs23, ss23, gs24, ss24, gs25, ss25, gs26, ss26, gs27, ss27, gs28, ss28, gs29, ss29, add_ii, sub_ii, mod_ii, div_ii, mul_ii, neg_i, lt_ii, le_ii, gt_ii, ge_ii, eq_ii, ne_ii, len_l, len_t, int_i, int_b, R.sha, ix_t0, ix_t1, ix_t2, ix_t3, eq_ss, ne_ss, eq_bb, ne_bb, pieceD, tgN, tgT, tgs, unS, h1, h2, h3]
    by_cases h5 : (nth ns p.n.toNat).a ≤ p.b
    · by_cases h6 : p.e ≤ (nth ns p.n.toNat).d
      · rw [decide_eq_true (p := POk ns p) (by unfold POk; omega)]
        simp -implicitDefEqProofs (disch := omega) [mSeq, mIfS, mTv, mTr, truD, m2, m1, m3, mVar, mC, mCS, mCall, mCons, mNil, rdS, asB, asI, mRet, mRetN, xOf, mSkip, mExp, mSet, mSetF, shareE, mSetT, store, kill, mAnd, mOr, mNot, mAndV, mOrV, mNotV, mIte, mLst, mTup, mApp, pVar, atP, subS, setS, okE, Sh.beq, mPut, mIsN, mNotN, isNon, mIsi, mIsB, mNotB, mSl, oSo, oNo, elemsL, elemsR, mCL, mCLL, mCIL, mCI, mFrz, mAug, mBrk, mCnt, mPop, mRevL, iSq, iR1, iR2, iEn, iZp, iRv, ownB, wipeE, mYes, gs0, ss0, gs1, ss1, gs2, ss2, gs3, ss3, gs4, ss4, gs5, ss5, gs6, ss6, gs7, ss7, gs8, ss8, gs9, ss9, gs10, ss10, gs11, ss11, gs12, ss12, gs13, ss13, gs14, ss14, gs15, ss15, gs16, ss16, gs17, ss17, gs18, ss18, gs19, ss19, gs20, ss20, gs21, ss21, gs22, ss22, gs23, ss23, gs24, ss24, gs25, ss25, gs26, ss26, gs27, ss27, gs28, ss28, gs29, ss29, add_ii, sub_ii, mod_ii, div_ii, mul_ii, neg_i, lt_ii, le_ii, gt_ii, ge_ii, eq_ii, ne_ii, len_l, len_t, int_i, int_b, R.sha, ix_t0, ix_t1, ix_t2, ix_t3, eq_ss, ne_ss, eq_bb, ne_bb, pieceD, tgN, tgT, tgs, unS, h1, h2, h3, h5, h6, ix_mS, noteD]
      · rw [hn (POk ns p) (by unfold POk; omega)]
        simp -implicitDefEqProofs (disch := omega) [mSeq, mIfS, mTv, mTr, truD, m2, m1, m3, mVar, mC, mCS, mCall, mCons, mNil, rdS, asB, asI, mRet, mRetN, xOf, mSkip, mExp, mSet, mSetF, shareE, mSetT, store, kill, mAnd, mOr, mNot, mAndV, mOrV, mNotV, mIte, mLst, mTup, mApp, pVar, atP, subS, setS, okE, Sh.beq, mPut, mIsN, mNotN, isNon, mIsi, mIsB, mNotB, mSl, oSo, oNo, elemsL, elemsR, mCL, mCLL, mCIL, mCI, mFrz, mAug, mBrk, mCnt, mPop, mRevL, iSq, iR1, iR2, iEn, iZp, iRv, ownB, wipeE, mYes, gs0, ss0, gs1, ss1, gs2, ss2, gs3, ss3, gs4, ss4, gs5, ss5, gs6, ss6, gs7, ss7, gs8, ss8, gs9, ss9, gs10, ss10, gs11, ss11, gs12, ss12, gs13, ss13, gs14, ss14, gs15, ss15, gs16, ss16, gs17, ss17, gs18, ss18, gs19, ss19, gs20, ss20, gs21, ss21, gs22, ss22, gs23, ss23, gs24, ss24, gs25, ss25, gs26, ss26, gs27, ss27, gs28, ss28, gs29, ss29, add_ii, sub_ii, mod_ii, div_ii, mul_ii, neg_i, lt_ii, le_ii, gt_ii, ge_ii, eq_ii, ne_ii, len_l, len_t, int_i, int_b, R.sha, ix_t0, ix_t1, ix_t2, ix_t3, eq_ss, ne_ss, eq_bb, ne_bb, pieceD, tgN, tgT, tgs, unS, h1, h2, h3, h5, h6, ix_mS, noteD]
    · rw [hn (POk ns p) (by unfold POk; omega)]
      simp -implicitDefEqProofs (disch := omega) [mSeq, mIfS, mTv, mTr, truD, m2, m1, m3, mVar, mC, mCS, mCall, mCons, mNil, rdS, asB, asI, mRet, mRetN, xOf, mSkip, mExp, mSet, mSetF, shareE, mSetT, store, kill, mAnd, mOr, mNot, mAndV, mOrV, mNotV, mIte, mLst, mTup, mApp, pVar, atP, subS, setS, okE, Sh.beq, mPut, mIsN, mNotN, isNon, mIsi, mIsB, mNotB, mSl, oSo, oNo, elemsL, elemsR, mCL, mCLL, mCIL, mCI, mFrz, mAug, mBrk, mCnt, mPop, mRevL, iSq, iR1, iR2, iEn, iZp, iRv, ownB, wipeE, mYes, gs0, ss0, gs1, ss1, gs2, ss2, gs3, ss3, gs4, ss4, gs5, ss5, gs6, ss6, gs7, ss7, gs8, ss8, gs9, ss9, gs10, ss10, gs11, ss11, gs12, ss12, gs13, ss13, gs14, ss14, gs15, ss15, gs16, ss16, gs17, ss17, gs18, ss18, gs19, ss19, gs20, ss20, gs21, ss21, gs22, ss22, gs23, ss23, gs24, ss24, gs25, ss25, gs26, ss26, gs27, ss27, gs28, ss28, gs29, ss29, add_ii, sub_ii, mod_ii, div_ii, mul_ii, neg_i, lt_ii, le_ii, gt_ii, ge_ii, eq_ii, ne_ii, len_l, len_t, int_i, int_b, R.sha, ix_t0, ix_t1, ix_t2, ix_t3, eq_ss, ne_ss, eq_bb, ne_bb, pieceD, tgN, tgT, tgs, unS, h1, h2, h3, h5, ix_mS, noteD]
  exact runF_rt (n := 5) rfl c1
theorem plan_loop (ns : List Note) (ps : List Piece) (H0 : List Int) (v2 v3 : Option (Sh × D)) (hH0 : H0.length = ns.length) (hz : ∀ k, k < ns.length → nth H0 k = 0) (hok : ∀ p ∈ ps, POk ns p) :
    ∃ H v6 v7 v8, forL (fun d e => (tgT [6, 7, 8] e d).bind l1_is_plan) (ps.map pieceD) [some (.s, .list (ns.map noteD)), some (.s, .list (ps.map pieceD)), v2, v3, some (.l .s, .list (H0.map .int)), none, none, none, none] =
      some (.nx [some (.s, .list (ns.map noteD)), some (.s, .list (ps.map pieceD)), v2, v3, some (.l .s, .list (H.map .int)), none, v6, v7, v8]) ∧ H.length = ns.length ∧ (∀ k, k < ns.length → nth H k = heard k ps) := by
  have := forL_inv (b := fun d e => (tgT [6, 7, 8] e d).bind l1_is_plan) (ds := ps.map pieceD) (env := [some (.s, .list (ns.map noteD)), some (.s, .list (ps.map pieceD)), v2, v3, some (.l .s, .list (H0.map .int)), none, none, none, none])
    (fun i e => ∃ H v6 v7 v8, e = [some (.s, .list (ns.map noteD)), some (.s, .list (ps.map pieceD)), v2, v3, some (.l .s, .list (H.map .int)), none, v6, v7, v8] ∧ H.length = ns.length ∧ (∀ k, k < ns.length → nth H k = heard k (ps.take i)))
    ⟨H0, none, none, none, rfl, hH0, fun k hk => by rw [hz k hk]; simp [heard]⟩ (by
      rintro i d e hd ⟨H, v6, v7, v8, rfl, hH, hv⟩
      rw [List.getElem?_map] at hd
      have hi : i < ps.length := by
        rcases (by omega : i < ps.length ∨ ps.length ≤ i) with q | q
        · exact q
        · rw [List.getElem?_eq_none q] at hd; cases hd
      rw [nth_get hi] at hd
      cases hd
      have hp := hok _ (nth_mem hi)
      have hp' := hp
      unfold POk at hp'
      have hb : l1_is_plan [some (.s, .list (ns.map noteD)), some (.s, .list (ps.map pieceD)), v2, v3, some (.l .s, .list (H.map .int)), none, some (.s, .int (nth ps i).n), some (.s, .int (nth ps i).b), some (.s, .int (nth ps i).e)] =
          some (.nx [some (.s, .list (ns.map noteD)), some (.s, .list (ps.map pieceD)), v2, v3, some (.l .s, .list ((H.set (nth ps i).n.toNat (nth H (nth ps i).n.toNat + (nth ps i).e - (nth ps i).b)).map .int)), none, some (.s, .int (nth ps i).n), some (.s, .int (nth ps i).b), some (.s, .int (nth ps i).e)]) := by
        generalize nth ps i = p at *
        have e1 : L2.ixN ns.length p.n = some p.n.toNat := ixN_i (by omega) (by omega)
        unfold l1_is_plan
        simp -implicitDefEqProofs (disch := omega) [mSeq, mIfS, mTv, mTr, truD, m2, m1, m3, mVar, mC, mCS, mCall, mCons, mNil, rdS, asB, asI, mRet, mRetN, xOf, mSkip, mExp, mSet, mSetF, shareE, mSetT, store, kill, mAnd, mOr, mNot, mAndV, mOrV, mNotV, mIte, mLst, mTup, mApp, pVar, atP, subS, setS, okE, Sh.beq, mPut, mIsN, mNotN, isNon, mIsi, mIsB, mNotB, mSl, oSo, oNo, elemsL, elemsR, mCL, mCLL, mCIL, mCI, mFrz, mAug, mBrk, mCnt, mPop, mRevL, iSq, iR1, iR2, iEn, iZp, iRv, ownB, wipeE, mYes, gs0, ss0, gs1, ss1, gs2, ss2, gs3, ss3, gs4, ss4, gs5, ss5, gs6, ss6, gs7, ss7, gs8, ss8, gs9, ss9, gs10, ss10, gs11, ss11, gs12, ss12, gs13, ss13, gs14, ss14, gs15, ss15, gs16, ss16, gs17, ss17, gs18, ss18, gs19, ss19, gs20, ss20, gs21, ss21, gs22, ss22, gs23, ss23, gs24, ss24, gs25, ss25, gs26, ss26, gs27, ss27, gs28, ss28, gs29, ss29, add_ii, sub_ii, mod_ii, div_ii, mul_ii, neg_i, lt_ii, le_ii, gt_ii, ge_ii, eq_ii, ne_ii, len_l, len_t, int_i, int_b, R.sha, ix_t0, ix_t1, ix_t2, ix_t3, eq_ss, ne_ss, eq_bb, ne_bb, ix_mL, hH, e1, List.map_set]
      have hs := (tgT3_bind (f := l1_is_plan) (env := [some (.s, .list (ns.map noteD)), some (.s, .list (ps.map pieceD)), v2, v3, some (.l .s, .list (H.map .int)), none, v6, v7, v8]) (i := 6) (j := 7) (k := 8) (a := .int (nth ps i).n) (b := .int (nth ps i).b) (c := .int (nth ps i).e) (by decide : 6 < 9) (by decide : 7 < 9) (by decide : 8 < 9)).trans hb
      exact ⟨_, hs, _, _, _, _, rfl, by rw [List.length_set]; exact hH, heard_set hi hH hv hp⟩)
  obtain ⟨e', h1, H, v6, v7, v8, rfl, a, b⟩ := this
  rw [List.length_map, List.take_length] at b
  exact ⟨H, v6, v7, v8, h1, a, b⟩
theorem is_plan_m (ns : List Note) (hg : GoodNs ns) (ps : List Piece) (hps : ps.length ≤ 100000) : ∃ k : Bool, m_is_plan [.list (ns.map noteD), psD ps] = some (.s, .bool k) ∧ (k = true ↔ PlanOk ns ps) := by
  have hn8 := hg.2.1
  have hok1 : okR 1 = true := by decide
  have hok2 : okR (ps.length : Int) = true := by simp [okR]; omega
  have hok3 : okR (ns.length : Int) = true := by simp [okR]; omega
  have c1 : mLc (.s) (iSq (mVar 1)) [2] (tgN 2) (mYes) (mCall (m_is_piece) (mCons (mVar 0) (mCons (mVar 2) (mNil)))) [some (.s, .list (ns.map noteD)), some (.s, .list (ps.map pieceD)), none, none, none, none, none, none, none] = some ⟨.l .s, .list (ps.map fun p => PyData.bool (decide (POk ns p))), []⟩ := by
    refine mLc_a (b := false) pieceD ps _ ?_ (by omega) ?_
    · simp -implicitDefEqProofs (disch := omega) [mSeq, mIfS, mTv, mTr, truD, m2, m1, m3, mVar, mC, mCS, mCall, mCons, mNil, rdS, asB, asI, mRet, mRetN, xOf, mSkip, mExp, mSet, mSetF, shareE, mSetT, store, kill, mAnd, mOr, mNot, mAndV, mOrV, mNotV, mIte, mLst, mTup, mApp, pVar, atP, subS, setS, okE, Sh.beq, mPut, mIsN, mNotN, isNon, mIsi, mIsB, mNotB, mSl, oSo, oNo, elemsL, elemsR, mCL, mCLL, mCIL, mCI, mFrz, mAug, mBrk, mCnt, mPop, mRevL, iSq, iR1, iR2, iEn, iZp, iRv, ownB, wipeE, mYes, gs0, ss0, gs1, ss1, gs2, ss2, gs3, ss3, gs4, ss4, gs5, ss5, gs6, ss6, gs7, ss7, gs8, ss8, gs9, ss9, gs10, ss10, gs11, ss11, gs12, ss12, gs13, ss13, gs14, ss14, gs15, ss15, gs16, ss16, gs17, ss17, gs18, ss18, gs19, ss19, gs20, ss20, gs21, ss21, gs22, ss22, gs23, ss23, gs24, ss24, gs25, ss25, gs26, ss26, gs27, ss27, gs28, ss28, gs29, ss29, add_ii, sub_ii, mod_ii, div_ii, mul_ii, neg_i, lt_ii, le_ii, gt_ii, ge_ii, eq_ii, ne_ii, len_l, len_t, int_i, int_b, R.sha, ix_t0, ix_t1, ix_t2, ix_t3, eq_ss, ne_ss, eq_bb, ne_bb, ]
    · intro p hp
      refine ⟨_, rfl, .s, ?_⟩
      simp -implicitDefEqProofs (disch := omega) [mSeq, mIfS, mTv, mTr, truD, m2, m1, m3, mVar, mC, mCS, mCall, mCons, mNil, rdS, asB, asI, mRet, mRetN, xOf, mSkip, mExp, mSet, mSetF, shareE, mSetT, store, kill, mAnd, mOr, mNot, mAndV, mOrV, mNotV, mIte, mLst, mTup, mApp, pVar, atP, subS, setS, okE, Sh.beq, mPut, mIsN, mNotN, isNon, mIsi, mIsB, mNotB, mSl, oSo, oNo, elemsL, elemsR, mCL, mCLL, mCIL, mCI, mFrz, mAug, mBrk, mCnt, mPop, mRevL, iSq, iR1, iR2, iEn, iZp, iRv, ownB, wipeE, mYes, gs0, ss0, gs1, ss1, gs2, ss2, gs3, ss3, gs4, ss4, gs5, ss5, gs6, ss6, gs7, ss7, gs8, ss8, gs9, ss9, gs10, ss10, gs11, ss11, gs12, ss12, gs13, ss13, gs14, ss14, gs15, ss15, gs16, ss16, gs17, ss17, gs18, ss18, gs19, ss19, gs20, ss20, gs21, ss21, gs22, ss22, gs23, ss23, gs24, ss24, gs25, ss25, gs26, ss26, gs27, ss27, gs28, ss28, gs29, ss29, add_ii, sub_ii, mod_ii, div_ii, mul_ii, neg_i, lt_ii, le_ii, gt_ii, ge_ii, eq_ii, ne_ii, len_l, len_t, int_i, int_b, R.sha, ix_t0, ix_t1, ix_t2, ix_t3, eq_ss, ne_ss, eq_bb, ne_bb, is_piece_m]
  have a1 := all_f (fun p => decide (POk ns p)) ps
  have c2 : mLc (.s) (iR2 (mC (.int 1)) (mCS gLen (mCons (mVar 1) (mNil)))) [3] (tgN 3) (mYes) (m2 gLt (m2 gIx (m2 gIx (mVar 1) (mVar 3)) (mC (.int 1))) (m2 gIx (m2 gIx (mVar 1) (m2 gSub (mVar 3) (mC (.int 1)))) (mC (.int 2)))) [some (.s, .list (ns.map noteD)), some (.s, .list (ps.map pieceD)), none, none, none, none, none, none, none] = some ⟨.l .s, .list ((List.range (ps.length - 1)).map fun k => PyData.bool (decide ((nth ps (1 + k)).b < (nth ps k).e))), []⟩ := by
    refine mLc_a (b := false) (fun k : Nat => PyData.int (1 + (k : Nat))) (List.range (ps.length - 1)) _ ?_ (by rw [List.length_range]; omega) ?_
    · have e1 : ((ps.length : Int) - 1).toNat = ps.length - 1 := by omega
      simp -implicitDefEqProofs (disch := omega) [mSeq, mIfS, mTv, mTr, truD, m2, m1, m3, mVar, mC, mCS, mCall, mCons, mNil, rdS, asB, asI, mRet, mRetN, xOf, mSkip, mExp, mSet, mSetF, shareE, mSetT, store, kill, mAnd, mOr, mNot, mAndV, mOrV, mNotV, mIte, mLst, mTup, mApp, pVar, atP, subS, setS, okE, Sh.beq, mPut, mIsN, mNotN, isNon, mIsi, mIsB, mNotB, mSl, oSo, oNo, elemsL, elemsR, mCL, mCLL, mCIL, mCI, mFrz, mAug, mBrk, mCnt, mPop, mRevL, iSq, iR1, iR2, iEn, iZp, iRv, ownB, wipeE, mYes, gs0, ss0, gs1, ss1, gs2, ss2, gs3, ss3, gs4, ss4, gs5, ss5, gs6, ss6, gs7, ss7, gs8, ss8, gs9, ss9, gs10, ss10, gs11, ss11, gs12, ss12, gs13, ss13, gs14, ss14, gs15, ss15, gs16, ss16, gs17, ss17, gs18, ss18, gs19, ss19, gs20, ss20, gs21, ss21, gs22, ss22, gs23, ss23, gs24, ss24, gs25, ss25, gs26, ss26, gs27, ss27, gs28, ss28, gs29, ss29, add_ii, sub_ii, mod_ii, div_ii, mul_ii, neg_i, lt_ii, le_ii, gt_ii, ge_ii, eq_ii, ne_ii, len_l, len_t, int_i, int_b, R.sha, ix_t0, ix_t1, ix_t2, ix_t3, eq_ss, ne_ss, eq_bb, ne_bb, hok1, hok2, rngD_map, e1]
    · intro k hk
      have hk := List.mem_range.mp hk
      refine ⟨_, rfl, .s, ?_⟩
      have e1 : (1 + (k : Int)).toNat = 1 + k := by omega
      have e2 : (1 + (k : Int)) - 1 = k := by omega
      simp -implicitDefEqProofs (disch := omega) [mSeq, mIfS, mTv, mTr, truD, m2, m1, m3, mVar, mC, mCS, mCall, mCons, mNil, rdS, asB, asI, mRet, mRetN, xOf, mSkip, mExp, mSet, mSetF, shareE, mSetT, store, kill, mAnd, mOr, mNot, mAndV, mOrV, mNotV, mIte, mLst, mTup, mApp, pVar, atP, subS, setS, okE, Sh.beq, mPut, mIsN, mNotN, isNon, mIsi, mIsB, mNotB, mSl, oSo, oNo, elemsL, elemsR, mCL, mCLL, mCIL, mCI, mFrz, mAug, mBrk, mCnt, mPop, mRevL, iSq, iR1, iR2, iEn, iZp, iRv, ownB, wipeE, mYes, gs0, ss0, gs1, ss1, gs2, ss2, gs3, ss3, gs4, ss4, gs5, ss5, gs6, ss6, gs7, ss7, gs8, ss8, gs9, ss9, gs10, ss10, gs11, ss11, gs12, ss12, gs13, ss13, gs14, ss14, gs15, ss15, gs16, ss16, gs17, ss17, gs18, ss18, gs19, ss19, gs20, ss20, gs21, ss21, gs22, ss22, gs23, ss23, gs24, ss24, gs25, ss25, gs26, ss26, gs27, ss27, gs28, ss28, gs29, ss29, add_ii, sub_ii, mod_ii, div_ii, mul_ii, neg_i, lt_ii, le_ii, gt_ii, ge_ii, eq_ii, ne_ii, len_l, len_t, int_i, int_b, R.sha, ix_t0, ix_t1, ix_t2, ix_t3, eq_ss, ne_ss, eq_bb, ne_bb, ix_mS, pieceD, e1, e2]
  have a2 := any_f (fun k => decide ((nth ps (1 + k)).b < (nth ps k).e)) (List.range (ps.length - 1))
  have c3 : mLc (.s) (iSq (mVar 0)) [5] (tgN 5) (mYes) (mC (.int 0)) [some (.s, .list (ns.map noteD)), some (.s, .list (ps.map pieceD)), none, none, none, none, none, none, none] = some ⟨.l .s, .list ((ns.map fun _ => (0 : Int)).map .int), []⟩ := by
    rw [List.map_map]
    refine mLc_a (b := false) noteD ns _ ?_ (by omega) ?_
    · simp -implicitDefEqProofs (disch := omega) [mSeq, mIfS, mTv, mTr, truD, m2, m1, m3, mVar, mC, mCS, mCall, mCons, mNil, rdS, asB, asI, mRet, mRetN, xOf, mSkip, mExp, mSet, mSetF, shareE, mSetT, store, kill, mAnd, mOr, mNot, mAndV, mOrV, mNotV, mIte, mLst, mTup, mApp, pVar, atP, subS, setS, okE, Sh.beq, mPut, mIsN, mNotN, isNon, mIsi, mIsB, mNotB, mSl, oSo, oNo, elemsL, elemsR, mCL, mCLL, mCIL, mCI, mFrz, mAug, mBrk, mCnt, mPop, mRevL, iSq, iR1, iR2, iEn, iZp, iRv, ownB, wipeE, mYes, gs0, ss0, gs1, ss1, gs2, ss2, gs3, ss3, gs4, ss4, gs5, ss5, gs6, ss6, gs7, ss7, gs8, ss8, gs9, ss9, gs10, ss10, gs11, ss11, gs12, ss12, gs13, ss13, gs14, ss14, gs15, ss15, gs16, ss16, gs17, ss17, gs18, ss18, gs19, ss19, gs20, ss20, gs21, ss21, gs22, ss22, gs23, ss23, gs24, ss24, gs25, ss25, gs26, ss26, gs27, ss27, gs28, ss28, gs29, ss29, add_ii, sub_ii, mod_ii, div_ii, mul_ii, neg_i, lt_ii, le_ii, gt_ii, ge_ii, eq_ii, ne_ii, len_l, len_t, int_i, int_b, R.sha, ix_t0, ix_t1, ix_t2, ix_t3, eq_ss, ne_ss, eq_bb, ne_bb, ]
    · intro n hn
      exact ⟨_, rfl, .s, rfl⟩
  have hl0 : (ns.map fun _ => (0 : Int)).length = ns.length := by simp
  have hz0 := zeros ns
  generalize (ns.map fun _ => (0 : Int)) = Z at *
  have fin : ∀ k, b_is_plan [some (.s, .list (ns.map noteD)), some (.s, .list (ps.map pieceD)), none, none, none, none, none, none, none] = some (.rt .s (.bool k)) → m_is_plan [.list (ns.map noteD), psD ps] = some (.s, .bool k) := fun k h => runF_rt (n := 9) rfl h
  by_cases q1 : ps.all (fun p => decide (POk ns p)) = true
  · have hok : ∀ p ∈ ps, POk ns p := fun p hp => by
      have := List.all_eq_true.mp q1 p hp
      simpa using this
    by_cases q2 : (List.range (ps.length - 1)).any (fun k => decide ((nth ps (1 + k)).b < (nth ps k).e)) = true
    · refine ⟨false, fin _ ?_, ⟨fun q => (by cases q), fun q => ?_⟩⟩
      · rw [q1] at a1
        rw [q2] at a2
        unfold b_is_plan
        simp -implicitDefEqProofs (disch := omega) [mSeq, mIfS, mTv, mTr, truD, m2, m1, m3, mVar, mC, mCS, mCall, mCons, mNil, rdS, asB, asI, mRet, mRetN, xOf, mSkip, mExp, mSet, mSetF, shareE, mSetT, store, kill, mAnd, mOr, mNot, mAndV, mOrV, mNotV, mIte, mLst, mTup, mApp, pVar, atP, subS, setS, okE, Sh.beq, mPut, mIsN, mNotN, isNon, mIsi, mIsB, mNotB, mSl, oSo, oNo, elemsL, elemsR, mCL, mCLL, mCIL, mCI, mFrz, mAug, mBrk, mCnt, mPop, mRevL, iSq, iR1, iR2, iEn, iZp, iRv, ownB, wipeE, mYes, gs0, ss0, gs1, ss1, gs2, ss2, gs3, ss3, gs4, ss4, gs5, ss5, gs6, ss6, gs7, ss7, gs8, ss8, gs9, ss9, gs10, ss10, gs11, ss11, gs12, ss12, gs13, ss13, gs14, ss14, gs15, ss15, gs16, ss16, gs17, ss17, gs18, ss18, gs19, ss19, gs20, ss20, gs21, ss21, gs22, ss22, gs23, ss23, gs24, ss24, gs25, ss25, gs26, ss26, gs27, ss27, gs28, ss28, gs29, ss29, add_ii, sub_ii, mod_ii, div_ii, mul_ii, neg_i, lt_ii, le_ii, gt_ii, ge_ii, eq_ii, ne_ii, len_l, len_t, int_i, int_b, R.sha, ix_t0, ix_t1, ix_t2, ix_t3, eq_ss, ne_ss, eq_bb, ne_bb, c1, a1, c2, a2]
      · obtain ⟨k, hk, hlt⟩ := List.any_eq_true.mp q2
        have hk := List.mem_range.mp hk
        have h1 := q.ord k (by omega)
        rw [decide_eq_true_eq, Nat.add_comm] at hlt
        omega
    · have q2' : (List.range (ps.length - 1)).any (fun k => decide ((nth ps (1 + k)).b < (nth ps k).e)) = false := by simpa using q2
      obtain ⟨H, v6, v7, v8, h1, h2, h3⟩ := plan_loop ns ps Z none none hl0 hz0 hok
      have c4 : mFor (iSq (mVar 1)) (tgT [6, 7, 8]) l1_is_plan _ = _ := mFor_of (by simp -implicitDefEqProofs (disch := omega) [mSeq, mIfS, mTv, mTr, truD, m2, m1, m3, mVar, mC, mCS, mCall, mCons, mNil, rdS, asB, asI, mRet, mRetN, xOf, mSkip, mExp, mSet, mSetF, shareE, mSetT, store, kill, mAnd, mOr, mNot, mAndV, mOrV, mNotV, mIte, mLst, mTup, mApp, pVar, atP, subS, setS, okE, Sh.beq, mPut, mIsN, mNotN, isNon, mIsi, mIsB, mNotB, mSl, oSo, oNo, elemsL, elemsR, mCL, mCLL, mCIL, mCI, mFrz, mAug, mBrk, mCnt, mPop, mRevL, iSq, iR1, iR2, iEn, iZp, iRv, ownB, wipeE, mYes, gs0, ss0, gs1, ss1, gs2, ss2, gs3, ss3, gs4, ss4, gs5, ss5, gs6, ss6, gs7, ss7, gs8, ss8, gs9, ss9, gs10, ss10, gs11, ss11, gs12, ss12, gs13, ss13, gs14, ss14, gs15, ss15, gs16, ss16, gs17, ss17, gs18, ss18, gs19, ss19, gs20, ss20, gs21, ss21, gs22, ss22, gs23, ss23, gs24, ss24, gs25, ss25, gs26, ss26, gs27, ss27, gs28, ss28, gs29, ss29, add_ii, sub_ii, mod_ii, div_ii, mul_ii, neg_i, lt_ii, le_ii, gt_ii, ge_ii, eq_ii, ne_ii, len_l, len_t, int_i, int_b, R.sha, ix_t0, ix_t1, ix_t2, ix_t3, eq_ss, ne_ss, eq_bb, ne_bb, ]) h1
      have c5 : mLc (.s) (iR1 (mCS gLen (mCons (mVar 0) (mNil)))) [3] (tgN 3) (mYes) (m2 (g2S gEq) (m2 gIx (mVar 4) (mVar 3)) (m2 gIx (m2 gIx (mVar 0) (mVar 3)) (mC (.int 2)))) [some (.s, .list (ns.map noteD)), some (.s, .list (ps.map pieceD)), none, none, some (.l .s, .list (H.map .int)), none, v6, v7, v8] = some ⟨.l .s, .list ((List.range ns.length).map fun k => PyData.bool (decide (nth H k = (nth ns k).b))), []⟩ := by
        refine mLc_a (b := false) (fun k : Nat => PyData.int (k : Nat)) (List.range ns.length) _ ?_ (by rw [List.length_range]; omega) ?_
        · simp -implicitDefEqProofs (disch := omega) [mSeq, mIfS, mTv, mTr, truD, m2, m1, m3, mVar, mC, mCS, mCall, mCons, mNil, rdS, asB, asI, mRet, mRetN, xOf, mSkip, mExp, mSet, mSetF, shareE, mSetT, store, kill, mAnd, mOr, mNot, mAndV, mOrV, mNotV, mIte, mLst, mTup, mApp, pVar, atP, subS, setS, okE, Sh.beq, mPut, mIsN, mNotN, isNon, mIsi, mIsB, mNotB, mSl, oSo, oNo, elemsL, elemsR, mCL, mCLL, mCIL, mCI, mFrz, mAug, mBrk, mCnt, mPop, mRevL, iSq, iR1, iR2, iEn, iZp, iRv, ownB, wipeE, mYes, gs0, ss0, gs1, ss1, gs2, ss2, gs3, ss3, gs4, ss4, gs5, ss5, gs6, ss6, gs7, ss7, gs8, ss8, gs9, ss9, gs10, ss10, gs11, ss11, gs12, ss12, gs13, ss13, gs14, ss14, gs15, ss15, gs16, ss16, gs17, ss17, gs18, ss18, gs19, ss19, gs20, ss20, gs21, ss21, gs22, ss22, gs23, ss23, gs24, ss24, gs25, ss25, gs26, ss26, gs27, ss27, gs28, ss28, gs29, ss29, add_ii, sub_ii, mod_ii, div_ii, mul_ii, neg_i, lt_ii, le_ii, gt_ii, ge_ii, eq_ii, ne_ii, len_l, len_t, int_i, int_b, R.sha, ix_t0, ix_t1, ix_t2, ix_t3, eq_ss, ne_ss, eq_bb, ne_bb, hok3, rng_map]
        · intro k hk
          have hk := List.mem_range.mp hk
          refine ⟨_, rfl, .s, ?_⟩
          simp -implicitDefEqProofs (disch := omega) [mSeq, mIfS, mTv, mTr, truD, m2, m1, m3, mVar, mC, mCS, mCall, mCons, mNil, rdS, asB, asI, mRet, mRetN, xOf, mSkip, mExp, mSet, mSetF, shareE, mSetT, store, kill, mAnd, mOr, mNot, mAndV, mOrV, mNotV, mIte, mLst, mTup, mApp, pVar, atP, subS, setS, okE, Sh.beq, mPut, mIsN, mNotN, isNon, mIsi, mIsB, mNotB, mSl, oSo, oNo, elemsL, elemsR, mCL, mCLL, mCIL, mCI, mFrz, mAug, mBrk, mCnt, mPop, mRevL, iSq, iR1, iR2, iEn, iZp, iRv, ownB, wipeE, mYes, gs0, ss0, gs1, ss1, gs2, ss2, gs3, ss3, gs4, ss4, gs5, ss5, gs6, ss6, gs7, ss7, gs8, ss8, gs9, ss9, gs10, ss10, gs11, ss11, gs12, ss12, gs13, ss13, gs14, ss14, gs15, ss15, gs16, ss16, gs17, ss17, gs18, ss18, gs19, ss19, gs20, ss20, gs21, ss21, gs22, ss22, gs23, ss23, gs24, ss24, gs25, ss25, gs26, ss26, gs27, ss27, gs28, ss28, gs29, ss29, add_ii, sub_ii, mod_ii, div_ii, mul_ii, neg_i, lt_ii, le_ii, gt_ii, ge_ii, eq_ii, ne_ii, len_l, len_t, int_i, int_b, R.sha, ix_t0, ix_t1, ix_t2, ix_t3, eq_ss, ne_ss, eq_bb, ne_bb, ix_mS, ix_mL, noteD]
      have a3 := all_f (fun k => decide (nth H k = (nth ns k).b)) (List.range ns.length)
      refine ⟨(List.range ns.length).all (fun k => decide (nth H k = (nth ns k).b)), fin _ ?_, ?_⟩
      · rw [q1] at a1
        rw [q2'] at a2
        generalize (List.range ns.length).all (fun k => decide (nth H k = (nth ns k).b)) = z at *
        unfold b_is_plan
        simp -implicitDefEqProofs (disch := omega) [mSeq, mIfS, mTv, mTr, truD, m2, m1, m3, mVar, mC, mCS, mCall, mCons, mNil, rdS, asB, asI, mRet, mRetN, xOf, mSkip, mExp, mSet, mSetF, shareE, mSetT, store, kill, mAnd, mOr, mNot, mAndV, mOrV, mNotV, mIte, mLst, mTup, mApp, pVar, atP, subS, setS, okE, Sh.beq, mPut, mIsN, mNotN, isNon, mIsi, mIsB, mNotB, mSl, oSo, oNo, elemsL, elemsR, mCL, mCLL, mCIL, mCI, mFrz, mAug, mBrk, mCnt, mPop, mRevL, iSq, iR1, iR2, iEn, iZp, iRv, ownB, wipeE, mYes, gs0, ss0, gs1, ss1, gs2, ss2, gs3, ss3, gs4, ss4, gs5, ss5, gs6, ss6, gs7, ss7, gs8, ss8, gs9, ss9, gs10, ss10, gs11, ss11, gs12, ss12, gs13, ss13, gs14, ss14, gs15, ss15, gs16, ss16, gs17, ss17, gs18, ss18, gs19, ss19, gs20, ss20, gs21, ss21, gs22, ss22, gs23, ss23, gs24, ss24, gs25, ss25, gs26, ss26, gs27, ss27, gs28, ss28, gs29, ss29, add_ii, sub_ii, mod_ii, div_ii, mul_ii, neg_i, lt_ii, le_ii, gt_ii, ge_ii, eq_ii, ne_ii, len_l, len_t, int_i, int_b, R.sha, ix_t0, ix_t1, ix_t2, ix_t3, eq_ss, ne_ss, eq_bb, ne_bb, c1, a1, c2, a2, c3, c4, c5, a3]
      · rw [List.all_eq_true]
        constructor
        · intro q
          refine ⟨hok, fun j hj => ?_, fun k hk => ?_⟩
          · rcases (by omega : (nth ps j).e ≤ (nth ps (j + 1)).b ∨ (nth ps (j + 1)).b < (nth ps j).e) with w | w
            · exact w
            · exact absurd (List.any_eq_true.mpr ⟨j, List.mem_range.mpr (by omega), by rw [decide_eq_true_eq, Nat.add_comm]; exact w⟩) q2
          · have := q k (List.mem_range.mpr hk)
            rw [decide_eq_true_eq] at this
            rw [← h3 k hk, this]
        · intro q k hk
          have hk := List.mem_range.mp hk
          rw [decide_eq_true_eq, h3 k hk, q.all k hk]
  · have q1' : ps.all (fun p => decide (POk ns p)) = false := by simpa using q1
    refine ⟨false, fin _ ?_, ⟨fun q => (by cases q), fun q => ?_⟩⟩
    · rw [q1'] at a1
      unfold b_is_plan
      simp -implicitDefEqProofs (disch := omega) [mSeq, mIfS, mTv, mTr, truD, m2, m1, m3, mVar, mC, mCS, mCall, mCons, mNil, rdS, asB, asI, mRet, mRetN, xOf, mSkip, mExp, mSet, mSetF, shareE, mSetT, store, kill, mAnd, mOr, mNot, mAndV, mOrV, mNotV, mIte, mLst, mTup, mApp, pVar, atP, subS, setS, okE, Sh.beq, mPut, mIsN, mNotN, isNon, mIsi, mIsB, mNotB, mSl, oSo, oNo, elemsL, elemsR, mCL, mCLL, mCIL, mCI, mFrz, mAug, mBrk, mCnt, mPop, mRevL, iSq, iR1, iR2, iEn, iZp, iRv, ownB, wipeE, mYes, gs0, ss0, gs1, ss1, gs2, ss2, gs3, ss3, gs4, ss4, gs5, ss5, gs6, ss6, gs7, ss7, gs8, ss8, gs9, ss9, gs10, ss10, gs11, ss11, gs12, ss12, gs13, ss13, gs14, ss14, gs15, ss15, gs16, ss16, gs17, ss17, gs18, ss18, gs19, ss19, gs20, ss20, gs21, ss21, gs22, ss22, gs23, ss23, gs24, ss24, gs25, ss25, gs26, ss26, gs27, ss27, gs28, ss28, gs29, ss29, add_ii, sub_ii, mod_ii, div_ii, mul_ii, neg_i, lt_ii, le_ii, gt_ii, ge_ii, eq_ii, ne_ii, len_l, len_t, int_i, int_b, R.sha, ix_t0, ix_t1, ix_t2, ix_t3, eq_ss, ne_ss, eq_bb, ne_bb, c1, a1]
    · exact absurd (List.all_eq_true.mpr fun p hp => decide_eq_true (q.ok p hp)) q1
end K56

set_option maxRecDepth 100000
set_option linter.all false
set_option maxHeartbeats 4000000
namespace K56
open PySem M
theorem judge_ok (ns : List Note) (hg : GoodNs ns) (v : Paper) (hv : ∀ ps, v = .plan ps → ps.length ≤ 100000) : ∃ k : Bool, m_judge_dated [.list (ns.map noteD), paperD v] = some (.s, .bool k) ∧ (k = true ↔ Acc ns v) := by
  have hn8 := hg.2.1
  have junk : ∀ d : D, b_judge_dated [some (.s, .list (ns.map noteD)), some (.s, d), none, none, none, none, none, none, none] = some (.rt .s (.bool false)) → ∃ k : Bool, m_judge_dated [.list (ns.map noteD), d] = some (.s, .bool k) ∧ (k = true ↔ False) :=
    fun d h => ⟨false, runF_rt (n := 9) rfl h, by simp⟩
  cases v with
  | plan ps =>
    obtain ⟨k, e1, e2⟩ := is_plan_m ns hg ps (hv ps rfl)
    refine ⟨k, ?_, e2⟩
    have c1 : b_judge_dated [some (.s, .list (ns.map noteD)), some (.s, .tuple [.str "plan", psD ps]), none, none, none, none, none, none, none] = some (.rt .s (.bool k)) := by
      unfold b_judge_dated
      simp -implicitDefEqProofs (disch := omega) [mSeq, mIfS, mTv, mTr, truD, m2, m1, m3, mVar, mC, mCS, mCall, mCons, mNil, rdS, asB, asI, mRet, mRetN, xOf, mSkip, mExp, mSet, mSetF, shareE, mSetT, store, kill, mAnd, mOr, mNot, mAndV, mOrV, mNotV, mIte, mLst, mTup, mApp, pVar, atP, subS, setS, okE, Sh.beq, mPut, mIsN, mNotN, isNon, mIsi, mIsB, mNotB, mSl, oSo, oNo, elemsL, elemsR, mCL, mCLL, mCIL, mCI, mFrz, mAug, mBrk, mCnt, mPop, mRevL, iSq, iR1, iR2, iEn, iZp, iRv, ownB, wipeE, mYes, gs0, ss0, gs1, ss1, gs2, ss2, gs3, ss3, gs4, ss4, gs5, ss5, gs6, ss6, gs7, ss7, gs8, ss8, gs9, ss9, gs10, ss10, gs11, ss11, gs12, ss12, gs13, ss13, gs14, ss14, gs15, ss15, gs16, ss16, gs17, ss17, gs18, ss18, gs19, ss19, gs20, ss20, gs21, ss21, gs22, ss22, gs23, ss23, gs24, ss24, gs25, ss25, gs26, ss26, gs27, ss27, gs28, ss28, gs29, ss29, add_ii, sub_ii, mod_ii, div_ii, mul_ii, neg_i, lt_ii, le_ii, gt_ii, ge_ii, eq_ii, ne_ii, len_l, len_t, int_i, int_b, R.sha, ix_t0, ix_t1, ix_t2, ix_t3, eq_ss, ne_ss, eq_bb, ne_bb, e1]
    exact runF_rt (n := 9) rfl c1
  | full s t =>
    have c1 : ∀ v1 v2 v5, mLc (.s) (iSq (mVar 0)) [6, 7, 8] (tgT [6, 7, 8]) (mAnd (mTv (m2 gGe (mVar 6) (mVar 3))) (mTv (m2 gLe (mVar 7) (mVar 4)))) (mVar 8) [some (.s, .list (ns.map noteD)), v1, v2, some (.s, .int s), some (.s, .int t), v5, none, none, none] = some ⟨.l .s, .list ((ns.filter fun n => decide (s ≤ n.a) && decide (n.d ≤ t)).map fun n => PyData.int n.b), []⟩ := by
      intro v1 v2 v5
      refine mLc_f (b := false) noteD ns _ _ ?_ (by omega) ?_
      · simp -implicitDefEqProofs (disch := omega) [mSeq, mIfS, mTv, mTr, truD, m2, m1, m3, mVar, mC, mCS, mCall, mCons, mNil, rdS, asB, asI, mRet, mRetN, xOf, mSkip, mExp, mSet, mSetF, shareE, mSetT, store, kill, mAnd, mOr, mNot, mAndV, mOrV, mNotV, mIte, mLst, mTup, mApp, pVar, atP, subS, setS, okE, Sh.beq, mPut, mIsN, mNotN, isNon, mIsi, mIsB, mNotB, mSl, oSo, oNo, elemsL, elemsR, mCL, mCLL, mCIL, mCI, mFrz, mAug, mBrk, mCnt, mPop, mRevL, iSq, iR1, iR2, iEn, iZp, iRv, ownB, wipeE, mYes, gs0, ss0, gs1, ss1, gs2, ss2, gs3, ss3, gs4, ss4, gs5, ss5, gs6, ss6, gs7, ss7, gs8, ss8, gs9, ss9, gs10, ss10, gs11, ss11, gs12, ss12, gs13, ss13, gs14, ss14, gs15, ss15, gs16, ss16, gs17, ss17, gs18, ss18, gs19, ss19, gs20, ss20, gs21, ss21, gs22, ss22, gs23, ss23, gs24, ss24, gs25, ss25, gs26, ss26, gs27, ss27, gs28, ss28, gs29, ss29, add_ii, sub_ii, mod_ii, div_ii, mul_ii, neg_i, lt_ii, le_ii, gt_ii, ge_ii, eq_ii, ne_ii, len_l, len_t, int_i, int_b, R.sha, ix_t0, ix_t1, ix_t2, ix_t3, eq_ss, ne_ss, eq_bb, ne_bb, ]
      · intro n hn
        refine ⟨_, rfl, ?_, fun _ => ⟨.s, ?_⟩⟩
        · simp -implicitDefEqProofs (disch := omega) [mSeq, mIfS, mTv, mTr, truD, m2, m1, m3, mVar, mC, mCS, mCall, mCons, mNil, rdS, asB, asI, mRet, mRetN, xOf, mSkip, mExp, mSet, mSetF, shareE, mSetT, store, kill, mAnd, mOr, mNot, mAndV, mOrV, mNotV, mIte, mLst, mTup, mApp, pVar, atP, subS, setS, okE, Sh.beq, mPut, mIsN, mNotN, isNon, mIsi, mIsB, mNotB, mSl, oSo, oNo, elemsL, elemsR, mCL, mCLL, mCIL, mCI, mFrz, mAug, mBrk, mCnt, mPop, mRevL, iSq, iR1, iR2, iEn, iZp, iRv, ownB, wipeE, mYes, gs0, ss0, gs1, ss1, gs2, ss2, gs3, ss3, gs4, ss4, gs5, ss5, gs6, ss6, gs7, ss7, gs8, ss8, gs9, ss9, gs10, ss10, gs11, ss11, gs12, ss12, gs13, ss13, gs14, ss14, gs15, ss15, gs16, ss16, gs17, ss17, gs18, ss18, gs19, ss19, gs20, ss20, gs21, ss21, gs22, ss22, gs23, ss23, gs24, ss24, gs25, ss25, gs26, ss26, gs27, ss27, gs28, ss28, gs29, ss29, add_ii, sub_ii, mod_ii, div_ii, mul_ii, neg_i, lt_ii, le_ii, gt_ii, ge_ii, eq_ii, ne_ii, len_l, len_t, int_i, int_b, R.sha, ix_t0, ix_t1, ix_t2, ix_t3, eq_ss, ne_ss, eq_bb, ne_bb, noteD]
          by_cases q : s ≤ n.a <;> simp [q]
        · simp -implicitDefEqProofs (disch := omega) [mSeq, mIfS, mTv, mTr, truD, m2, m1, m3, mVar, mC, mCS, mCall, mCons, mNil, rdS, asB, asI, mRet, mRetN, xOf, mSkip, mExp, mSet, mSetF, shareE, mSetT, store, kill, mAnd, mOr, mNot, mAndV, mOrV, mNotV, mIte, mLst, mTup, mApp, pVar, atP, subS, setS, okE, Sh.beq, mPut, mIsN, mNotN, isNon, mIsi, mIsB, mNotB, mSl, oSo, oNo, elemsL, elemsR, mCL, mCLL, mCIL, mCI, mFrz, mAug, mBrk, mCnt, mPop, mRevL, iSq, iR1, iR2, iEn, iZp, iRv, ownB, wipeE, mYes, gs0, ss0, gs1, ss1, gs2, ss2, gs3, ss3, gs4, ss4, gs5, ss5, gs6, ss6, gs7, ss7, gs8, ss8, gs9, ss9, gs10, ss10, gs11, ss11, gs12, ss12, gs13, ss13, gs14, ss14, gs15, ss15, gs16, ss16, gs17, ss17, gs18, ss18, gs19, ss19, gs20, ss20, gs21, ss21, gs22, ss22, gs23, ss23, gs24, ss24, gs25, ss25, gs26, ss26, gs27, ss27, gs28, ss28, gs29, ss29, add_ii, sub_ii, mod_ii, div_ii, mul_ii, neg_i, lt_ii, le_ii, gt_ii, ge_ii, eq_ii, ne_ii, len_l, len_t, int_i, int_b, R.sha, ix_t0, ix_t1, ix_t2, ix_t3, eq_ss, ne_ss, eq_bb, ne_bb, noteD]
    have c2 := sum_f Note.b (ns.filter fun n => decide (s ≤ n.a) && decide (n.d ≤ t))
    have hdm : ((ns.filter fun n => decide (s ≤ n.a) && decide (n.d ≤ t)).map Note.b).sum = demand ns s t := rfl
    rw [hdm] at c2
    refine ⟨decide (FullOk ns s t), ?_, by simp [Acc]⟩
    have c3 : b_judge_dated [some (.s, .list (ns.map noteD)), some (.s, .tuple [.str "full", .int s, .int t]), none, none, none, none, none, none, none] = some (.rt .s (.bool (decide (FullOk ns s t)))) := by
      unfold b_judge_dated FullOk
      by_cases q1 : 0 ≤ s
      · by_cases q2 : s < t
        · simp -implicitDefEqProofs (disch := omega) [mSeq, mIfS, mTv, mTr, truD, m2, m1, m3, mVar, mC, mCS, mCall, mCons, mNil, rdS, asB, asI, mRet, mRetN, xOf, mSkip, mExp, mSet, mSetF, shareE, mSetT, store, kill, mAnd, mOr, mNot, mAndV, mOrV, mNotV, mIte, mLst, mTup, mApp, pVar, atP, subS, setS, okE, Sh.beq, mPut, mIsN, mNotN, isNon, mIsi, mIsB, mNotB, mSl, oSo, oNo, elemsL, elemsR, mCL, mCLL, mCIL, mCI, mFrz, mAug, mBrk, mCnt, mPop, mRevL, iSq, iR1, iR2, iEn, iZp, iRv, ownB, wipeE, mYes, gs0, ss0, gs1, ss1, gs2, ss2, gs3, ss3, gs4, ss4, gs5, ss5, gs6, ss6, gs7, ss7, gs8, ss8, gs9, ss9, gs10, ss10, gs11, ss11, gs12, ss12, gs13, ss13, gs14, ss14, gs15, ss15, gs16, ss16, gs17, ss17, gs18, ss18, gs19, ss19, gs20, ss20, gs21, ss21, gs22, ss22, gs23, ss23, gs24, ss24, gs25, ss25, gs26, ss26, gs27, ss27, gs28, ss28, gs29, ss29, add_ii, sub_ii, mod_ii, div_ii, mul_ii, neg_i, lt_ii, le_ii, gt_ii, ge_ii, eq_ii, ne_ii, len_l, len_t, int_i, int_b, R.sha, ix_t0, ix_t1, ix_t2, ix_t3, eq_ss, ne_ss, eq_bb, ne_bb, q1, q2, c1, c2, tgN, tgT, tgs, unS]
        · simp -implicitDefEqProofs (disch := omega) [mSeq, mIfS, mTv, mTr, truD, m2, m1, m3, mVar, mC, mCS, mCall, mCons, mNil, rdS, asB, asI, mRet, mRetN, xOf, mSkip, mExp, mSet, mSetF, shareE, mSetT, store, kill, mAnd, mOr, mNot, mAndV, mOrV, mNotV, mIte, mLst, mTup, mApp, pVar, atP, subS, setS, okE, Sh.beq, mPut, mIsN, mNotN, isNon, mIsi, mIsB, mNotB, mSl, oSo, oNo, elemsL, elemsR, mCL, mCLL, mCIL, mCI, mFrz, mAug, mBrk, mCnt, mPop, mRevL, iSq, iR1, iR2, iEn, iZp, iRv, ownB, wipeE, mYes, gs0, ss0, gs1, ss1, gs2, ss2, gs3, ss3, gs4, ss4, gs5, ss5, gs6, ss6, gs7, ss7, gs8, ss8, gs9, ss9, gs10, ss10, gs11, ss11, gs12, ss12, gs13, ss13, gs14, ss14, gs15, ss15, gs16, ss16, gs17, ss17, gs18, ss18, gs19, ss19, gs20, ss20, gs21, ss21, gs22, ss22, gs23, ss23, gs24, ss24, gs25, ss25, gs26, ss26, gs27, ss27, gs28, ss28, gs29, ss29, add_ii, sub_ii, mod_ii, div_ii, mul_ii, neg_i, lt_ii, le_ii, gt_ii, ge_ii, eq_ii, ne_ii, len_l, len_t, int_i, int_b, R.sha, ix_t0, ix_t1, ix_t2, ix_t3, eq_ss, ne_ss, eq_bb, ne_bb, q1, q2, c1, c2, tgN, tgT, tgs, unS]
      · simp -implicitDefEqProofs (disch := omega) [mSeq, mIfS, mTv, mTr, truD, m2, m1, m3, mVar, mC, mCS, mCall, mCons, mNil, rdS, asB, asI, mRet, mRetN, xOf, mSkip, mExp, mSet, mSetF, shareE, mSetT, store, kill, mAnd, mOr, mNot, mAndV, mOrV, mNotV, mIte, mLst, mTup, mApp, pVar, atP, subS, setS, okE, Sh.beq, mPut, mIsN, mNotN, isNon, mIsi, mIsB, mNotB, mSl, oSo, oNo, elemsL, elemsR, mCL, mCLL, mCIL, mCI, mFrz, mAug, mBrk, mCnt, mPop, mRevL, iSq, iR1, iR2, iEn, iZp, iRv, ownB, wipeE, mYes, gs0, ss0, gs1, ss1, gs2, ss2, gs3, ss3, gs4, ss4, gs5, ss5, gs6, ss6, gs7, ss7, gs8, ss8, gs9, ss9, gs10, ss10, gs11, ss11, gs12, ss12, gs13, ss13, gs14, ss14, gs15, ss15, gs16, ss16, gs17, ss17, gs18, ss18, gs19, ss19, gs20, ss20, gs21, ss21, gs22, ss22, gs23, ss23, gs24, ss24, gs25, ss25, gs26, ss26, gs27, ss27, gs28, ss28, gs29, ss29, add_ii, sub_ii, mod_ii, div_ii, mul_ii, neg_i, lt_ii, le_ii, gt_ii, ge_ii, eq_ii, ne_ii, len_l, len_t, int_i, int_b, R.sha, ix_t0, ix_t1, ix_t2, ix_t3, eq_ss, ne_ss, eq_bb, ne_bb, q1, c1, c2, tgN, tgT, tgs, unS]
    exact runF_rt (n := 9) rfl c3
  | full1 => refine junk _ ?_; unfold b_judge_dated; simp -implicitDefEqProofs (disch := omega) [mSeq, mIfS, mTv, mTr, truD, m2, m1, m3, mVar, mC, mCS, mCall, mCons, mNil, rdS, asB, asI, mRet, mRetN, xOf, mSkip, mExp, mSet, mSetF, shareE, mSetT, store, kill, mAnd, mOr, mNot, mAndV, mOrV, mNotV, mIte, mLst, mTup, mApp, pVar, atP, subS, setS, okE, Sh.beq, mPut, mIsN, mNotN, isNon, mIsi, mIsB, mNotB, mSl, oSo, oNo, elemsL, elemsR, mCL, mCLL, mCIL, mCI, mFrz, mAug, mBrk, mCnt, mPop, mRevL, iSq, iR1, iR2, iEn, iZp, iRv, ownB, wipeE, mYes, gs0, ss0, gs1, ss1, gs2, ss2, gs3, ss3, gs4, ss4, gs5, ss5, gs6, ss6, gs7, ss7, gs8, ss8, gs9, ss9, gs10, ss10, gs11, ss11, gs12, ss12, gs13, ss13, gs14, ss14, gs15, ss15, gs16, ss16, gs17, ss17, gs18, ss18, gs19, ss19, gs20, ss20, gs21, ss21, gs22, ss22, gs23, ss23, gs24, ss24, gs25, ss25, gs26, ss26, gs27, ss27, gs28, ss28, gs29, ss29, add_ii, sub_ii, mod_ii, div_ii, mul_ii, neg_i, lt_ii, le_ii, gt_ii, ge_ii, eq_ii, ne_ii, len_l, len_t, int_i, int_b, R.sha, ix_t0, ix_t1, ix_t2, ix_t3, eq_ss, ne_ss, eq_bb, ne_bb, paperD, st2]
  | plan3 ps => refine junk _ ?_; unfold b_judge_dated; simp -implicitDefEqProofs (disch := omega) [mSeq, mIfS, mTv, mTr, truD, m2, m1, m3, mVar, mC, mCS, mCall, mCons, mNil, rdS, asB, asI, mRet, mRetN, xOf, mSkip, mExp, mSet, mSetF, shareE, mSetT, store, kill, mAnd, mOr, mNot, mAndV, mOrV, mNotV, mIte, mLst, mTup, mApp, pVar, atP, subS, setS, okE, Sh.beq, mPut, mIsN, mNotN, isNon, mIsi, mIsB, mNotB, mSl, oSo, oNo, elemsL, elemsR, mCL, mCLL, mCIL, mCI, mFrz, mAug, mBrk, mCnt, mPop, mRevL, iSq, iR1, iR2, iEn, iZp, iRv, ownB, wipeE, mYes, gs0, ss0, gs1, ss1, gs2, ss2, gs3, ss3, gs4, ss4, gs5, ss5, gs6, ss6, gs7, ss7, gs8, ss8, gs9, ss9, gs10, ss10, gs11, ss11, gs12, ss12, gs13, ss13, gs14, ss14, gs15, ss15, gs16, ss16, gs17, ss17, gs18, ss18, gs19, ss19, gs20, ss20, gs21, ss21, gs22, ss22, gs23, ss23, gs24, ss24, gs25, ss25, gs26, ss26, gs27, ss27, gs28, ss28, gs29, ss29, add_ii, sub_ii, mod_ii, div_ii, mul_ii, neg_i, lt_ii, le_ii, gt_ii, ge_ii, eq_ii, ne_ii, len_l, len_t, int_i, int_b, R.sha, ix_t0, ix_t1, ix_t2, ix_t3, eq_ss, ne_ss, eq_bb, ne_bb, paperD, st1]
  | plans ps => refine junk _ ?_; unfold b_judge_dated; simp -implicitDefEqProofs (disch := omega) [mSeq, mIfS, mTv, mTr, truD, m2, m1, m3, mVar, mC, mCS, mCall, mCons, mNil, rdS, asB, asI, mRet, mRetN, xOf, mSkip, mExp, mSet, mSetF, shareE, mSetT, store, kill, mAnd, mOr, mNot, mAndV, mOrV, mNotV, mIte, mLst, mTup, mApp, pVar, atP, subS, setS, okE, Sh.beq, mPut, mIsN, mNotN, isNon, mIsi, mIsB, mNotB, mSl, oSo, oNo, elemsL, elemsR, mCL, mCLL, mCIL, mCI, mFrz, mAug, mBrk, mCnt, mPop, mRevL, iSq, iR1, iR2, iEn, iZp, iRv, ownB, wipeE, mYes, gs0, ss0, gs1, ss1, gs2, ss2, gs3, ss3, gs4, ss4, gs5, ss5, gs6, ss6, gs7, ss7, gs8, ss8, gs9, ss9, gs10, ss10, gs11, ss11, gs12, ss12, gs13, ss13, gs14, ss14, gs15, ss15, gs16, ss16, gs17, ss17, gs18, ss18, gs19, ss19, gs20, ss20, gs21, ss21, gs22, ss22, gs23, ss23, gs24, ss24, gs25, ss25, gs26, ss26, gs27, ss27, gs28, ss28, gs29, ss29, add_ii, sub_ii, mod_ii, div_ii, mul_ii, neg_i, lt_ii, le_ii, gt_ii, ge_ii, eq_ii, ne_ii, len_l, len_t, int_i, int_b, R.sha, ix_t0, ix_t1, ix_t2, ix_t3, eq_ss, ne_ss, eq_bb, ne_bb, paperD, st3]
  | emp => refine junk _ ?_; unfold b_judge_dated; simp -implicitDefEqProofs (disch := omega) [mSeq, mIfS, mTv, mTr, truD, m2, m1, m3, mVar, mC, mCS, mCall, mCons, mNil, rdS, asB, asI, mRet, mRetN, xOf, mSkip, mExp, mSet, mSetF, shareE, mSetT, store, kill, mAnd, mOr, mNot, mAndV, mOrV, mNotV, mIte, mLst, mTup, mApp, pVar, atP, subS, setS, okE, Sh.beq, mPut, mIsN, mNotN, isNon, mIsi, mIsB, mNotB, mSl, oSo, oNo, elemsL, elemsR, mCL, mCLL, mCIL, mCI, mFrz, mAug, mBrk, mCnt, mPop, mRevL, iSq, iR1, iR2, iEn, iZp, iRv, ownB, wipeE, mYes, gs0, ss0, gs1, ss1, gs2, ss2, gs3, ss3, gs4, ss4, gs5, ss5, gs6, ss6, gs7, ss7, gs8, ss8, gs9, ss9, gs10, ss10, gs11, ss11, gs12, ss12, gs13, ss13, gs14, ss14, gs15, ss15, gs16, ss16, gs17, ss17, gs18, ss18, gs19, ss19, gs20, ss20, gs21, ss21, gs22, ss22, gs23, ss23, gs24, ss24, gs25, ss25, gs26, ss26, gs27, ss27, gs28, ss28, gs29, ss29, add_ii, sub_ii, mod_ii, div_ii, mul_ii, neg_i, lt_ii, le_ii, gt_ii, ge_ii, eq_ii, ne_ii, len_l, len_t, int_i, int_b, R.sha, ix_t0, ix_t1, ix_t2, ix_t3, eq_ss, ne_ss, eq_bb, ne_bb, paperD]
  | plan0 => refine junk _ ?_; unfold b_judge_dated; simp -implicitDefEqProofs (disch := omega) [mSeq, mIfS, mTv, mTr, truD, m2, m1, m3, mVar, mC, mCS, mCall, mCons, mNil, rdS, asB, asI, mRet, mRetN, xOf, mSkip, mExp, mSet, mSetF, shareE, mSetT, store, kill, mAnd, mOr, mNot, mAndV, mOrV, mNotV, mIte, mLst, mTup, mApp, pVar, atP, subS, setS, okE, Sh.beq, mPut, mIsN, mNotN, isNon, mIsi, mIsB, mNotB, mSl, oSo, oNo, elemsL, elemsR, mCL, mCLL, mCIL, mCI, mFrz, mAug, mBrk, mCnt, mPop, mRevL, iSq, iR1, iR2, iEn, iZp, iRv, ownB, wipeE, mYes, gs0, ss0, gs1, ss1, gs2, ss2, gs3, ss3, gs4, ss4, gs5, ss5, gs6, ss6, gs7, ss7, gs8, ss8, gs9, ss9, gs10, ss10, gs11, ss11, gs12, ss12, gs13, ss13, gs14, ss14, gs15, ss15, gs16, ss16, gs17, ss17, gs18, ss18, gs19, ss19, gs20, ss20, gs21, ss21, gs22, ss22, gs23, ss23, gs24, ss24, gs25, ss25, gs26, ss26, gs27, ss27, gs28, ss28, gs29, ss29, add_ii, sub_ii, mod_ii, div_ii, mul_ii, neg_i, lt_ii, le_ii, gt_ii, ge_ii, eq_ii, ne_ii, len_l, len_t, int_i, int_b, R.sha, ix_t0, ix_t1, ix_t2, ix_t3, eq_ss, ne_ss, eq_bb, ne_bb, paperD]
  | fuller => refine junk _ ?_; unfold b_judge_dated; simp -implicitDefEqProofs (disch := omega) [mSeq, mIfS, mTv, mTr, truD, m2, m1, m3, mVar, mC, mCS, mCall, mCons, mNil, rdS, asB, asI, mRet, mRetN, xOf, mSkip, mExp, mSet, mSetF, shareE, mSetT, store, kill, mAnd, mOr, mNot, mAndV, mOrV, mNotV, mIte, mLst, mTup, mApp, pVar, atP, subS, setS, okE, Sh.beq, mPut, mIsN, mNotN, isNon, mIsi, mIsB, mNotB, mSl, oSo, oNo, elemsL, elemsR, mCL, mCLL, mCIL, mCI, mFrz, mAug, mBrk, mCnt, mPop, mRevL, iSq, iR1, iR2, iEn, iZp, iRv, ownB, wipeE, mYes, gs0, ss0, gs1, ss1, gs2, ss2, gs3, ss3, gs4, ss4, gs5, ss5, gs6, ss6, gs7, ss7, gs8, ss8, gs9, ss9, gs10, ss10, gs11, ss11, gs12, ss12, gs13, ss13, gs14, ss14, gs15, ss15, gs16, ss16, gs17, ss17, gs18, ss18, gs19, ss19, gs20, ss20, gs21, ss21, gs22, ss22, gs23, ss23, gs24, ss24, gs25, ss25, gs26, ss26, gs27, ss27, gs28, ss28, gs29, ss29, add_ii, sub_ii, mod_ii, div_ii, mul_ii, neg_i, lt_ii, le_ii, gt_ii, ge_ii, eq_ii, ne_ii, len_l, len_t, int_i, int_b, R.sha, ix_t0, ix_t1, ix_t2, ix_t3, eq_ss, ne_ss, eq_bb, ne_bb, paperD, st4]
end K56

set_option maxRecDepth 100000
set_option linter.all false
set_option maxHeartbeats 4000000
namespace K56
open PySem M L2
def cutX {α : Type} (xs : List α) (lo hi : Option Int) : List α := (xs.drop (HT.sIx xs.length 0 lo)).take (HT.sIx xs.length xs.length hi - HT.sIx xs.length 0 lo)
theorem cutX_len {α : Type} (xs : List α) (lo hi : Option Int) : (cutX xs lo hi).length ≤ xs.length := by
  unfold cutX; rw [List.length_take, List.length_drop]; omega
theorem cutX_mem {α : Type} {xs : List α} {lo hi : Option Int} {x : α} (h : x ∈ cutX xs lo hi) : x ∈ xs := List.mem_of_mem_drop (List.mem_of_mem_take h)
theorem sl_l {α : Type} (f : α → D) (xs : List α) (s : Sh) (a : List Nat) (lo hi : Option Int) (hs : s = .s ∨ s = .l .s) : gSl ⟨s, .list (xs.map f), a⟩ lo hi = some ⟨.l .s, .list ((cutX xs lo hi).map f), []⟩ := by
  have : elemsL ⟨s, .list (xs.map f), a⟩ = some (xs.map f) := by rcases hs with rfl | rfl <;> rfl
  unfold gSl; rw [this]
  simp only [cutD, cutX, List.length_map, List.map_take, List.map_drop]
theorem ps_sl (ps : List Piece) (a : List Nat) (lo hi : Option Int) : gSl ⟨.s, psD ps, a⟩ lo hi = some ⟨.l .s, psD (cutX ps lo hi), []⟩ := sl_l pieceD ps .s a lo hi (.inl rfl)
theorem cat_l (xs ys : List D) (s t : Sh) (a b : List Nat) (hs : s = .s ∨ s = .l .s) (ht : t = .s ∨ t = .l .s) (h : xs.length + ys.length ≤ 16777216) : gAdd ⟨s, .list xs, a⟩ ⟨t, .list ys, b⟩ = some ⟨.l .s, .list (xs ++ ys), []⟩ := by
  have h1 : elemsL ⟨s, .list xs, a⟩ = some xs := by rcases hs with rfl | rfl <;> rfl
  have h2 : elemsL ⟨t, .list ys, b⟩ = some ys := by rcases ht with rfl | rfl <;> rfl
  have h3 : gCat ⟨s, .list xs, a⟩ ⟨t, .list ys, b⟩ = some ⟨.l .s, .list (xs ++ ys), []⟩ := by
    unfold gCat; rw [h1, h2]
    simp only [Option.bind_some]
    rw [if_pos (by rw [sizeLine_val]; exact h)]
  have h4 : ∀ g, g2or gCat g ⟨s, .list xs, a⟩ ⟨t, .list ys, b⟩ = some ⟨.l .s, .list (xs ++ ys), []⟩ := fun g => by
    unfold g2or; rw [h3]; rfl
  have h5 : gI (fun _ _ => true) (fun i j => PyData.int (i + j)) ⟨s, .list xs, a⟩ ⟨t, .list ys, b⟩ = none := rfl
  unfold gAdd
  rw [show ∀ f g : R → R → Option R, g2or f g ⟨s, .list xs, a⟩ ⟨t, .list ys, b⟩ = (f ⟨s, .list xs, a⟩ ⟨t, .list ys, b⟩).or (g ⟨s, .list xs, a⟩ ⟨t, .list ys, b⟩) from fun _ _ => rfl, h5, h4]; rfl
theorem cat_ll (xs ys : List D) (a b : List Nat) (h : xs.length + ys.length ≤ 16777216) : gAdd ⟨.l .s, .list xs, a⟩ ⟨.l .s, .list ys, b⟩ = some ⟨.l .s, .list (xs ++ ys), []⟩ := cat_l xs ys _ _ a b (.inr rfl) (.inr rfl) h
theorem cat_sl (xs ys : List D) (a b : List Nat) (h : xs.length + ys.length ≤ 16777216) : gAdd ⟨.s, .list xs, a⟩ ⟨.l .s, .list ys, b⟩ = some ⟨.l .s, .list (xs ++ ys), []⟩ := cat_l xs ys _ _ a b (.inl rfl) (.inr rfl) h
theorem ps_cat (ps qs : List Piece) (s t : Sh) (a b : List Nat) (hs : s = .s ∨ s = .l .s) (ht : t = .s ∨ t = .l .s) (h : ps.length + qs.length ≤ 16777216) : gAdd ⟨s, psD ps, a⟩ ⟨t, psD qs, b⟩ = some ⟨.l .s, psD (ps ++ qs), []⟩ := by
  have := cat_l (ps.map pieceD) (qs.map pieceD) s t a b hs ht (by rw [List.length_map, List.length_map]; exact h)
  rw [← List.map_append] at this
  exact this
theorem ps_el (ps : List Piece) (a : List Nat) : elemsL ⟨.s, psD ps, a⟩ = some (ps.map pieceD) := rfl
theorem ps_er (ps : List Piece) (a : List Nat) : elemsR ⟨.s, psD ps, a⟩ = some (ps.map pieceD) := rfl
theorem ps_len (ps : List Piece) : gLen [psD ps] = some (.int (ps.length : Nat)) := by
  unfold psD; rw [len_l, List.length_map]
theorem ps_ix (ps : List Piece) (t : Sh) (i : Int) (a b : List Nat) (h0 : 0 ≤ i) (h1 : i < ps.length) : gIx ⟨.s, psD ps, a⟩ ⟨t, .int i, b⟩ = some ⟨.s, pieceD (nth ps i.toNat), []⟩ := ix_mS pieceD ps t i a b h0 h1
theorem ps_0 : PyData.list [] = psD [] := rfl
theorem ps_1 (a b c : Int) : PyData.list [.tuple [.int a, .int b, .int c]] = psD [⟨a, b, c⟩] := rfl
theorem ps_2 (a b c x y z : Int) : PyData.list [.tuple [.int a, .int b, .int c], .tuple [.int x, .int y, .int z]] = psD [⟨a, b, c⟩, ⟨x, y, z⟩] := rfl
theorem ps_rev (ps : List Piece) : PyData.list (ps.map pieceD).reverse = psD ps.reverse := by
  unfold psD; rw [List.map_reverse]
theorem bent_body (ps : List Piece) (L : List (List Piece)) (q : List Piece) (at' : Int) (v1 v2 v5 v6 v7 v8 v9 v11 v12 : Option (Sh × D)) (h1 : ps.length ≤ 1000) (h2 : L.length ≤ 1000) (h3 : q.length ≤ 1000) :
    l1_law_bent [some (.s, psD ps), v1, v2, some (.l .s, .list (L.map psD)), some (.s, .int at'), v5, v6, v7, v8, v9, some (.s, psD q), v11, v12] =
      some (.nx [some (.s, psD ps), v1, v2, some (.l .s, .list ((L ++ [cutX ps (some 0) (some at') ++ q ++ cutX ps (some (at' + 1)) none]).map psD)), some (.s, .int at'), v5, v6, v7, v8, v9, some (.s, psD q), v11, v12]) := by
  have hz : sizeLine = 16777216 := sizeLine_val
  have c1 := cutX_len ps (some 0) (some at')
  have c2 := cutX_len ps (some (at' + 1)) none
  have d1 : ∀ a b, gAdd ⟨.l .s, psD (cutX ps (some 0) (some at')), a⟩ ⟨.s, psD q, b⟩ = some ⟨.l .s, psD (cutX ps (some 0) (some at') ++ q), []⟩ := fun a b => ps_cat _ _ _ _ _ _ (.inr rfl) (.inl rfl) (by omega)
  have d2 : ∀ a b, gAdd ⟨.l .s, psD (cutX ps (some 0) (some at') ++ q), a⟩ ⟨.l .s, psD (cutX ps (some (at' + 1)) none), b⟩ = some ⟨.l .s, psD (cutX ps (some 0) (some at') ++ q ++ cutX ps (some (at' + 1)) none), []⟩ := fun a b => ps_cat _ _ _ _ _ _ (.inr rfl) (.inr rfl) (by rw [List.length_append]; omega)
  have hx : L.length < 16777216 := by omega
  unfold l1_law_bent
  simp -implicitDefEqProofs (disch := omega) [mSeq, mIfS, mTv, mTr, truD, m2, m1, m3, mVar, mC, mCS, mCall, mCons, mNil, rdS, asB, asI, mRet, mRetN, xOf, mSkip, mExp, mSet, mSetF, shareE, mSetT, store, kill, mAnd, mOr, mNot, mAndV, mOrV, mNotV, mIte, mLst, mTup, mApp, pVar, atP, subS, setS, okE, Sh.beq, mPut, mIsN, mNotN, isNon, mIsi, mIsB, mNotB, mSl, oSo, oNo, elemsL, elemsR, mCL, mCLL, mCIL, mCI, mFrz, mAug, mBrk, mCnt, mPop, mRevL, iSq, iR1, iR2, iEn, iZp, iRv, ownB, wipeE, mYes, gs0, ss0, gs1, ss1, gs2, ss2, gs3, ss3, gs4, ss4, gs5, ss5, gs6, ss6, gs7, ss7, gs8, ss8, gs9, ss9, gs10, ss10, gs11, ss11, gs12, ss12, gs13, ss13, gs14, ss14, gs15, ss15, gs16, ss16, gs17, ss17, gs18, ss18, gs19, ss19, gs20, ss20, gs21, ss21, gs22, ss22, gs23, ss23, gs24, ss24, gs25, ss25, gs26, ss26, gs27, ss27, gs28, ss28, gs29, ss29, add_ii, sub_ii, mod_ii, div_ii, mul_ii, neg_i, lt_ii, le_ii, gt_ii, ge_ii, eq_ii, ne_ii, len_l, len_t, int_i, int_b, R.sha, ix_t0, ix_t1, ix_t2, ix_t3, eq_ss, ne_ss, eq_bb, ne_bb, ps_sl, d1, d2, hz, hx]
theorem bent_loop (ps : List Piece) (L C : List (List Piece)) (at' : Int) (v1 v2 v5 v6 v7 v8 v9 v10 v11 v12 : Option (Sh × D)) (h1 : ps.length ≤ 1000) (h2 : L.length + C.length ≤ 1000) (h3 : ∀ q ∈ C, q.length ≤ 1000) :
    ∃ (L' : List (List Piece)) (w10 : Option (Sh × D)), forL (fun d e => (tgN 10 e d).bind l1_law_bent) (C.map psD) [some (.s, psD ps), v1, v2, some (.l .s, .list (L.map psD)), some (.s, .int at'), v5, v6, v7, v8, v9, v10, v11, v12] =
      some (.nx [some (.s, psD ps), v1, v2, some (.l .s, .list (L'.map psD)), some (.s, .int at'), v5, v6, v7, v8, v9, w10, v11, v12]) ∧ L'.length = L.length + C.length ∧ ((∀ q ∈ L, q.length ≤ 3000) → ∀ q ∈ L', q.length ≤ 3000) := by
  induction C generalizing L v10 with
  | nil => exact ⟨L, v10, rfl, rfl, fun h => h⟩
  | cons q C ih =>
    simp only [List.length_cons] at h2
    have hb := (tgN_bind (f := l1_law_bent) (env := [some (.s, psD ps), v1, v2, some (.l .s, .list (L.map psD)), some (.s, .int at'), v5, v6, v7, v8, v9, v10, v11, v12]) (i := 10) (d := psD q) (by decide : 10 < 13)).trans (bent_body ps L q at' v1 v2 v5 v6 v7 v8 v9 v11 v12 h1 (by omega) (h3 q List.mem_cons_self))
    obtain ⟨L', w10, e1, e2, e3⟩ := ih (L ++ [cutX ps (some 0) (some at') ++ q ++ cutX ps (some (at' + 1)) none]) (some (.s, psD q)) (by simp; omega) (fun z hz => h3 z (List.mem_cons_of_mem _ hz))
    refine ⟨L', w10, ?_, by rw [e2]; simp; omega, fun h => e3 fun z hz => ?_⟩
    · rw [List.map_cons]
      unfold forL
      simp only [hb]
      exact e1
    · rcases List.mem_append.mp hz with hz | hz
      · exact h z hz
      · rw [List.mem_singleton] at hz
        subst hz
        have c1 := cutX_len ps (some 0) (some at')
        have c2 := cutX_len ps (some (at' + 1)) none
        have := h3 q List.mem_cons_self
        rw [List.length_append, List.length_append]; omega
end K56

set_option maxRecDepth 100000
set_option linter.all false
set_option maxHeartbeats 4000000
namespace K56
open PySem M L2
theorem bent_ok (ps : List Piece) (dr : List Int) (n : Int) (hps : ps.length ≤ 1000) (hbe : ∀ p ∈ ps, p.b < p.e) (hdr : dr.length = 6) (hn : 0 < n) (hd : ∀ i, i < 6 → 0 ≤ nth dr i) :
    ∃ L : List (List Piece), m_law_bent [psD ps, .list (dr.map .int), .int n] = some (.l .s, .list (L.map psD)) ∧ L.length ≤ 50 ∧ ∀ q ∈ L, q.length ≤ 3000 := by
  have hz : sizeLine = 16777216 := sizeLine_val
  have x1 := cutX_len ps (some 0) (some 1)
  have x2 := cutX_len ps (some 1) none
  have x3 := cutX_len ps (some 0) (some ((ps.length : Int) - 1))
  have d1 : ∀ a b, gAdd ⟨.s, psD ps, a⟩ ⟨.l .s, psD (cutX ps (some 0) (some 1)), b⟩ = some ⟨.l .s, psD (ps ++ cutX ps (some 0) (some 1)), []⟩ := fun a b => ps_cat _ _ _ _ _ _ (.inl rfl) (.inr rfl) (by omega)
  have hF : ∀ q ∈ [ps, ps.reverse, ps ++ cutX ps (some 0) (some 1), [], cutX ps (some 1) none, cutX ps (some 0) (some ((ps.length : Int) - 1))], q.length ≤ 3000 := by
    intro q hq
    simp only [List.mem_cons, List.not_mem_nil, or_false] at hq
    rcases hq with rfl | rfl | rfl | rfl | rfl | rfl
    · omega
    · rw [List.length_reverse]; omega
    · rw [List.length_append]; omega
    · decide
    · omega
    · omega
  by_cases h0 : ps = []
  · refine ⟨[ps, ps.reverse, ps ++ cutX ps (some 0) (some 1), [], cutX ps (some 1) none, cutX ps (some 0) (some ((ps.length : Int) - 1))], ?_, by simp, hF⟩
    have h0' : (ps = []) = True := eq_true h0
    have c1 : b_law_bent [some (.s, psD ps), some (.s, .list (dr.map .int)), some (.s, .int n), none, none, none, none, none, none, none, none, none, none] = some (.rt (.l .s) (.list ([ps, ps.reverse, ps ++ cutX ps (some 0) (some 1), [], cutX ps (some 1) none, cutX ps (some 0) (some ((ps.length : Int) - 1))].map psD))) := by
      unfold b_law_bent
      simp -implicitDefEqProofs (disch := omega) [mSeq_K, seqK_nx, seqK_rt, seqK_bk, seqK_ct, mIfS_K, ifK_t, ifK_f, mTv, mTr, truD, m2, m1, m3, mVar, mC, mCS, mCall, mCons, mNil, rdS, asB, asI, mRet, mRetN, xOf, mSkip, mExp, mSet, mSetF, shareE, mSetT, store, kill, mAnd_K, andK_t, andK_f, mOr_K, orK_t, orK_f, mNot, mAndV, mOrV, mNotV, mIte, mLst, mTup, mApp, pVar, atP, subS, setS, okE, Sh.beq, mPut, mIsN, mNotN, isNon, mIsi, mIsB, mNotB, mSl, oSo, oNo, mCL, mCLL, mCIL, mCI, mFrz, mAug, mBrk, mCnt, mPop, mRevL, iSq, iR1, iR2, iEn, iZp, iRv, ownB, wipeE, mYes, gs0, ss0, gs1, ss1, gs2, ss2, gs3, ss3, gs4, ss4, gs5, ss5, gs6, ss6, gs7, ss7, gs8, ss8, gs9, ss9, gs10, ss10, gs11, ss11, gs12, ss12, gs13, ss13, gs14, ss14, gs15, ss15, gs16, ss16, gs17, ss17, gs18, ss18, gs19, ss19, gs20, ss20, gs21, ss21, gs22, ss22, gs23, ss23, gs24, ss24, gs25, ss25, gs26, ss26, gs27, ss27, gs28, ss28, gs29, ss29, add_ii, sub_ii, mod_ii, div_ii, mul_ii, neg_i, lt_ii, le_ii, gt_ii, ge_ii, eq_ii, ne_ii, len_l, len_t, int_i, int_b, R.sha, ix_t0, ix_t1, ix_t2, ix_t3, eq_ss, ne_ss, eq_bb, ne_bb, ps_sl, ps_el, d1, ps_len, ps_rev, ps_0, h0']
    exact runF_rt (n := 13) rfl c1
  · have h0' : (ps = []) = False := eq_false h0
    have hpos : 0 < ps.length := by
      cases ps with
      | nil => exact absurd rfl h0
      | cons _ _ => simp
    have g0 := hd 0 (by decide)
    have g1 := hd 1 (by decide)
    have g2 := hd 2 (by decide)
    have g3 := hd 3 (by decide)
    have a0 : 0 ≤ nth dr 0 % (ps.length : Int) ∧ nth dr 0 % (ps.length : Int) < ps.length := ⟨Int.emod_nonneg _ (by omega), Int.emod_lt_of_pos _ (by omega)⟩
    have a3 : 0 ≤ nth dr 3 % (ps.length : Int) ∧ nth dr 3 % (ps.length : Int) < ps.length := ⟨Int.emod_nonneg _ (by omega), Int.emod_lt_of_pos _ (by omega)⟩
    have hp := hbe _ (nth_mem (xs := ps) (i := (nth dr 0 % (ps.length : Int)).toNat) (by omega))
    have r0 := mod_ii .s .s (nth dr 0) (ps.length : Int) [] [] (by omega)
    have r3 := mod_ii .s .s (nth dr 3) (ps.length : Int) [] [] (by omega)
    generalize nth dr 0 % (ps.length : Int) = at' at *
    generalize nth dr 3 % (ps.length : Int) = ot at *
    generalize hpp : nth ps at'.toNat = p at *
    have i0 : ∀ t a b, gIx ⟨.s, psD ps, a⟩ ⟨t, .int at', b⟩ = some ⟨.s, pieceD p, []⟩ := fun t a b => by
      rw [ps_ix ps t at' a b a0.1 a0.2, hpp]
    obtain ⟨o, ho⟩ : ∃ o, o = nth ps ot.toNat := ⟨_, rfl⟩
    have i3 : ∀ t a b, gIx ⟨.s, psD ps, a⟩ ⟨t, .int ot, b⟩ = some ⟨.s, pieceD o, []⟩ := fun t a b => by
      rw [ps_ix ps t ot a b a3.1 a3.2, ho]
    have e0 : ixN ps.length at' = some at'.toNat := ixN_i a0.1 a0.2
    have e3 : ixN ps.length ot = some ot.toNat := ixN_i a3.1 a3.2
    obtain ⟨cut, hcut⟩ : ∃ cut, cut = p.b + nth dr 1 % (p.e - p.b + 1) := ⟨_, rfl⟩
    obtain ⟨rn, hrn⟩ : ∃ rn, rn = nth dr 2 % n := ⟨_, rfl⟩
    obtain ⟨L', w10, f1, f2, f3⟩ := bent_loop ps [ps, ps.reverse, ps ++ cutX ps (some 0) (some 1), [], cutX ps (some 1) none, cutX ps (some 0) (some ((ps.length : Int) - 1))]
      [[⟨p.n, p.b, cut⟩, ⟨p.n, cut, p.e⟩], [⟨p.n, p.b + 1, p.e + 1⟩], [⟨p.n, p.b - 1, p.e - 1⟩], [⟨p.n, p.b, p.e + 1⟩], [⟨p.n, p.b + 1, p.e⟩], [⟨p.n, p.b, p.e - 1⟩], [⟨p.n, p.b - 1, p.e⟩],
       [⟨rn, p.b, p.e⟩], [⟨n, p.b, p.e⟩], [⟨p.n - n, p.b, p.e⟩], [], [⟨p.n, p.e, p.b⟩], [⟨p.n, p.b, p.b⟩], [⟨p.n, cut, p.e⟩, ⟨p.n, p.b, cut⟩], [⟨p.n, p.b, p.e⟩, ⟨p.n, p.e, p.b⟩], [⟨-1, p.b, p.e⟩]]
      at' (some (.s, .list (dr.map .int))) (some (.s, .int n)) (some (.s, .int p.n)) (some (.s, .int p.b)) (some (.s, .int p.e)) (some (.s, .int cut))
      (some (.s, .list ([[⟨p.n, p.b, cut⟩, ⟨p.n, cut, p.e⟩], [⟨p.n, p.b + 1, p.e + 1⟩], [⟨p.n, p.b - 1, p.e - 1⟩], [⟨p.n, p.b, p.e + 1⟩], [⟨p.n, p.b + 1, p.e⟩], [⟨p.n, p.b, p.e - 1⟩], [⟨p.n, p.b - 1, p.e⟩],
       [⟨rn, p.b, p.e⟩], [⟨n, p.b, p.e⟩], [⟨p.n - n, p.b, p.e⟩], [], [⟨p.n, p.e, p.b⟩], [⟨p.n, p.b, p.b⟩], [⟨p.n, cut, p.e⟩, ⟨p.n, p.b, cut⟩], [⟨p.n, p.b, p.e⟩, ⟨p.n, p.e, p.b⟩], [⟨-1, p.b, p.e⟩]].map psD)))
      none none none hps (by simp) (by
        intro q hq
        simp only [List.mem_cons, List.not_mem_nil, or_false] at hq
        rcases hq with rfl | rfl | rfl | rfl | rfl | rfl | rfl | rfl | rfl | rfl | rfl | rfl | rfl | rfl | rfl | rfl <;> simp)
    have c9 := mFor_of (mi := iSq (mVar 9)) (tg := tgN 10) (body := l1_law_bent) (env := [some (.s, psD ps), some (.s, .list (dr.map .int)), some (.s, .int n), some (.l .s, .list ([ps, ps.reverse, ps ++ cutX ps (some 0) (some 1), [], cutX ps (some 1) none, cutX ps (some 0) (some ((ps.length : Int) - 1))].map psD)), some (.s, .int at'), some (.s, .int p.n), some (.s, .int p.b), some (.s, .int p.e), some (.s, .int cut), some (.s, .list ([[⟨p.n, p.b, cut⟩, ⟨p.n, cut, p.e⟩], [⟨p.n, p.b + 1, p.e + 1⟩], [⟨p.n, p.b - 1, p.e - 1⟩], [⟨p.n, p.b, p.e + 1⟩], [⟨p.n, p.b + 1, p.e⟩], [⟨p.n, p.b, p.e - 1⟩], [⟨p.n, p.b - 1, p.e⟩],
       [⟨rn, p.b, p.e⟩], [⟨n, p.b, p.e⟩], [⟨p.n - n, p.b, p.e⟩], [], [⟨p.n, p.e, p.b⟩], [⟨p.n, p.b, p.b⟩], [⟨p.n, cut, p.e⟩, ⟨p.n, p.b, cut⟩], [⟨p.n, p.b, p.e⟩, ⟨p.n, p.e, p.b⟩], [⟨-1, p.b, p.e⟩]].map psD)), none, none, none]) (by rfl) f1
    clear f1
    simp only [List.map_cons, List.map_nil] at c9
    have fold : PyData.list (((ps.map pieceD).set at'.toNat (.tuple [.int o.n, .int p.b, .int p.e])).set ot.toNat (.tuple [.int p.n, .int o.b, .int o.e])) = psD ((ps.set at'.toNat ⟨o.n, p.b, p.e⟩).set ot.toNat ⟨p.n, o.b, o.e⟩) := by
      unfold psD; rw [List.map_set, List.map_set]; rfl
    refine ⟨L' ++ [(ps.set at'.toNat ⟨o.n, p.b, p.e⟩).set ot.toNat ⟨p.n, o.b, o.e⟩], ?_, by rw [List.length_append, f2]; simp, fun q hq => ?_⟩
    · have hL' : L'.length ≤ 16777215 := by rw [f2]; simp
      have last : ∀ z : D, gAdd ⟨.l .s, .list (L'.map psD), [3]⟩ ⟨.l .s, .list [z], []⟩ = some ⟨.l .s, .list (L'.map psD ++ [z]), []⟩ := fun z => cat_ll _ _ _ _ (by simp; omega)
      have c1 : b_law_bent [some (.s, psD ps), some (.s, .list (dr.map .int)), some (.s, .int n), none, none, none, none, none, none, none, none, none, none] = some (.rt (.l .s) (.list ((L' ++ [(ps.set at'.toNat ⟨o.n, p.b, p.e⟩).set ot.toNat ⟨p.n, o.b, o.e⟩]).map psD))) := by
        unfold b_law_bent
        simp -implicitDefEqProofs (disch := omega) [mSeq_K, seqK_nx, seqK_rt, seqK_bk, seqK_ct, mIfS_K, ifK_t, ifK_f, mTv, mTr, truD, m2, m1, m3, mVar, mC, mCS, mCall, mCons, mNil, rdS, asB, asI, mRet, mRetN, xOf, mSkip, mExp, mSet, mSetF, shareE, mSetT, store, kill, mAnd_K, andK_t, andK_f, mOr_K, orK_t, orK_f, mNot, mAndV, mOrV, mNotV, mIte, mLst, mTup, mApp, pVar, atP, subS, setS, okE, Sh.beq, mPut, mIsN, mNotN, isNon, mIsi, mIsB, mNotB, mSl, oSo, oNo, mCL, mCLL, mCIL, mCI, mFrz, mAug, mBrk, mCnt, mPop, mRevL, iSq, iR1, iR2, iEn, iZp, iRv, ownB, wipeE, mYes, gs0, ss0, gs1, ss1, gs2, ss2, gs3, ss3, gs4, ss4, gs5, ss5, gs6, ss6, gs7, ss7, gs8, ss8, gs9, ss9, gs10, ss10, gs11, ss11, gs12, ss12, gs13, ss13, gs14, ss14, gs15, ss15, gs16, ss16, gs17, ss17, gs18, ss18, gs19, ss19, gs20, ss20, gs21, ss21, gs22, ss22, gs23, ss23, gs24, ss24, gs25, ss25, gs26, ss26, gs27, ss27, gs28, ss28, gs29, ss29, add_ii, sub_ii, mod_ii, div_ii, mul_ii, neg_i, lt_ii, le_ii, gt_ii, ge_ii, eq_ii, ne_ii, len_l, len_t, int_i, int_b, R.sha, ix_t0, ix_t1, ix_t2, ix_t3, eq_ss, ne_ss, eq_bb, ne_bb, tgN, tgT, tgs, unS, ps_sl, ps_el, ps_er, d1, ps_len, ps_rev, ps_0, ps_1, ps_2, h0', i0, i3, r0, r3, pieceD, ← hcut, ← hrn, c9, e0, e3, fold, hz, ix_mS, hdr, last, cat_if_sl]
      exact runF_rt (n := 13) rfl c1
    · rcases List.mem_append.mp hq with hq | hq
      · exact f3 hF q hq
      · rw [List.mem_singleton] at hq
        subst hq
        rw [List.length_set, List.length_set]; omega
end K56

set_option maxRecDepth 100000
set_option linter.all false
set_option maxHeartbeats 4000000
namespace K56
open PySem M L2
theorem sl_s {α : Type} (f : α → D) (xs : List α) (a : List Nat) (lo hi : Option Int) : gSl ⟨.s, .list (xs.map f), a⟩ lo hi = some ⟨.l .s, .list ((cutX xs lo hi).map f), []⟩ := sl_l f xs .s a lo hi (.inl rfl)
theorem mom_body (v0 v1 v2 v3 v4 : Option (Sh × D)) (M : List (Int × Int)) (s t : Int) (h : M.length ≤ 10000) :
    l1_law_moments [v0, v1, v2, v3, v4, some (.l .s, .list (M.map pairD)), some (.s, .int s), some (.s, .int t)] = some (.nx [v0, v1, v2, v3, v4, some (.l .s, .list ((M ++ [(s, t), (s - 1, t), (s, t + 1), (s + 1, t), (s, t - 1)]).map pairD)), some (.s, .int s), some (.s, .int t)]) := by
  unfold l1_law_moments
  have h5 : M.length + 5 ≤ 16777216 := by omega
  simp -implicitDefEqProofs (disch := omega) [mSeq_K, seqK_nx, seqK_rt, seqK_bk, seqK_ct, mIfS_K, ifK_t, ifK_f, mTv, mTr, truD, m2, m1, m3, mVar, mC, mCS, mCall, mCons, mNil, rdS, asB, asI, mRet, mRetN, xOf, mSkip, mExp, mSet, mSetF, shareE, mSetT, store, kill, mAnd_K, andK_t, andK_f, mOr_K, orK_t, orK_f, mNot, mAndV, mOrV, mNotV, mIte, mLst, mTup, mApp, pVar, atP, subS, setS, okE, Sh.beq, mPut, mIsN, mNotN, isNon, mIsi, mIsB, mNotB, mSl, oSo, oNo, mCL, mCLL, mCIL, mCI, mFrz, mAug, mBrk, mCnt, mPop, mRevL, iSq, iR1, iR2, iEn, iZp, iRv, ownB, wipeE, mYes, gs0, ss0, gs1, ss1, gs2, ss2, gs3, ss3, gs4, ss4, gs5, ss5, gs6, ss6, gs7, ss7, gs8, ss8, gs9, ss9, gs10, ss10, gs11, ss11, gs12, ss12, gs13, ss13, gs14, ss14, gs15, ss15, gs16, ss16, gs17, ss17, gs18, ss18, gs19, ss19, gs20, ss20, gs21, ss21, gs22, ss22, gs23, ss23, gs24, ss24, gs25, ss25, gs26, ss26, gs27, ss27, gs28, ss28, gs29, ss29, add_ii, sub_ii, mod_ii, div_ii, mul_ii, neg_i, lt_ii, le_ii, gt_ii, ge_ii, eq_ii, ne_ii, len_l, len_t, int_i, int_b, R.sha, ix_t0, ix_t1, ix_t2, ix_t3, eq_ss, ne_ss, eq_bb, ne_bb, cat_if_ll, h5, pairD]
theorem mom_in (v0 v1 v2 v3 v4 : Option (Sh × D)) (s : Int) : ∀ (ts : List Int) (M : List (Int × Int)) (v7 : Option (Sh × D)), M.length + 5 * ts.length ≤ 10000 →
    ∃ (M' : List (Int × Int)) (w7 : Option (Sh × D)), forL (fun d e => (tgN 7 e d).bind l1_law_moments) (ts.map .int) [v0, v1, v2, v3, v4, some (.l .s, .list (M.map pairD)), some (.s, .int s), v7] = some (.nx [v0, v1, v2, v3, v4, some (.l .s, .list (M'.map pairD)), some (.s, .int s), w7]) ∧ M'.length = M.length + 5 * ts.length
  | [], M, v7, _ => ⟨M, v7, rfl, rfl⟩
  | t :: ts, M, v7, h => by
    simp only [List.length_cons] at h
    have hb := (tgN_bind (f := l1_law_moments) (env := [v0, v1, v2, v3, v4, some (.l .s, .list (M.map pairD)), some (.s, .int s), v7]) (i := 7) (d := .int t) (by decide : 7 < 8)).trans (mom_body v0 v1 v2 v3 v4 M s t (by omega))
    obtain ⟨M', w7, e1, e2⟩ := mom_in v0 v1 v2 v3 v4 s ts (M ++ [(s, t), (s - 1, t), (s, t + 1), (s + 1, t), (s, t - 1)]) (some (.s, .int t)) (by simp; omega)
    refine ⟨M', w7, ?_, by rw [e2]; simp; omega⟩
    rw [List.map_cons]
    unfold forL
    simp only [hb]
    exact e1
theorem mom_out (v0 v1 v2 v3 : Option (Sh × D)) (B : List Int) (hB : B.length ≤ 8) : ∀ (ss : List Int) (M : List (Int × Int)) (v6 v7 : Option (Sh × D)), M.length + 40 * ss.length ≤ 10000 →
    ∃ (M' : List (Int × Int)) (w6 w7 : Option (Sh × D)), forL (fun d e => (tgN 6 e d).bind l2_law_moments) (ss.map .int) [v0, v1, v2, v3, some (.s, .list (B.map .int)), some (.l .s, .list (M.map pairD)), v6, v7] = some (.nx [v0, v1, v2, v3, some (.s, .list (B.map .int)), some (.l .s, .list (M'.map pairD)), w6, w7]) ∧ M'.length ≤ M.length + 40 * ss.length
  | [], M, v6, v7, _ => ⟨M, v6, v7, rfl, Nat.le_refl _⟩
  | s :: ss, M, v6, v7, h => by
    simp only [List.length_cons] at h
    have hc := cutX_len B (some 0) (some 5)
    obtain ⟨M1, w7, f1, f2⟩ := mom_in v0 v1 v2 v3 (some (.s, .list (B.map .int))) s (cutX B (some 0) (some 5)) M v7 (by omega)
    have hm : l2_law_moments [v0, v1, v2, v3, some (.s, .list (B.map .int)), some (.l .s, .list (M.map pairD)), some (.s, .int s), v7] = _ := mFor_of (by simp -implicitDefEqProofs (disch := omega) [mSeq_K, seqK_nx, seqK_rt, seqK_bk, seqK_ct, mIfS_K, ifK_t, ifK_f, mTv, mTr, truD, m2, m1, m3, mVar, mC, mCS, mCall, mCons, mNil, rdS, asB, asI, mRet, mRetN, xOf, mSkip, mExp, mSet, mSetF, shareE, mSetT, store, kill, mAnd_K, andK_t, andK_f, mOr_K, orK_t, orK_f, mNot, mAndV, mOrV, mNotV, mIte, mLst, mTup, mApp, pVar, atP, subS, setS, okE, Sh.beq, mPut, mIsN, mNotN, isNon, mIsi, mIsB, mNotB, mSl, oSo, oNo, mCL, mCLL, mCIL, mCI, mFrz, mAug, mBrk, mCnt, mPop, mRevL, iSq, iR1, iR2, iEn, iZp, iRv, ownB, wipeE, mYes, gs0, ss0, gs1, ss1, gs2, ss2, gs3, ss3, gs4, ss4, gs5, ss5, gs6, ss6, gs7, ss7, gs8, ss8, gs9, ss9, gs10, ss10, gs11, ss11, gs12, ss12, gs13, ss13, gs14, ss14, gs15, ss15, gs16, ss16, gs17, ss17, gs18, ss18, gs19, ss19, gs20, ss20, gs21, ss21, gs22, ss22, gs23, ss23, gs24, ss24, gs25, ss25, gs26, ss26, gs27, ss27, gs28, ss28, gs29, ss29, add_ii, sub_ii, mod_ii, div_ii, mul_ii, neg_i, lt_ii, le_ii, gt_ii, ge_ii, eq_ii, ne_ii, len_l, len_t, int_i, int_b, R.sha, ix_t0, ix_t1, ix_t2, ix_t3, eq_ss, ne_ss, eq_bb, ne_bb, sl_s]) f1
    have hb := (tgN_bind (f := l2_law_moments) (env := [v0, v1, v2, v3, some (.s, .list (B.map .int)), some (.l .s, .list (M.map pairD)), v6, v7]) (i := 6) (d := .int s) (by decide : 6 < 8)).trans hm
    obtain ⟨M', w6, w7', e1, e2⟩ := mom_out v0 v1 v2 v3 B hB ss M1 (some (.s, .int s)) w7 (by omega)
    refine ⟨M', w6, w7', ?_, by simp only [List.length_cons]; omega⟩
    rw [List.map_cons]
    unfold forL
    simp only [hb]
    exact e1
theorem moments_ok (ns : List Note) (hg : GoodNs ns) (dr : List Int) (hdr : dr.length = 6) (hd : ∀ i, i < 6 → 0 ≤ nth dr i) :
    ∃ M : List (Int × Int), m_law_moments [.list (ns.map noteD), .list (dr.map .int)] = some (.l .s, .list (M.map pairD)) ∧ M.length ≤ 1000 := by
  have hn1 := hg.1
  have hn8 := hg.2.1
  obtain ⟨A, hA⟩ : ∃ A, A = ns.map Note.a := ⟨_, rfl⟩
  obtain ⟨B, hB⟩ : ∃ B, B = ns.map Note.d := ⟨_, rfl⟩
  have lA : A.length ≤ 8 := by rw [hA, List.length_map]; exact hn8
  have lB : B.length ≤ 8 := by rw [hB, List.length_map]; exact hn8
  have lB1 : 0 < B.length := by rw [hB, List.length_map]; exact hn1
  have c1 : ∀ v1, mLc (.s) (iSq (mVar 0)) [3] (tgN 3) (mYes) (m2 gIx (mVar 3) (mC (.int 0))) [some (.s, .list (ns.map noteD)), v1, none, none, none, none, none, none] = some ⟨.l .s, .list (A.map .int), []⟩ := by
    intro v1
    rw [hA, List.map_map]
    refine mLc_a (b := false) noteD ns _ ?_ (by omega) ?_
    · simp -implicitDefEqProofs (disch := omega) [mSeq, mIfS, mTv, mTr, truD, m2, m1, m3, mVar, mC, mCS, mCall, mCons, mNil, rdS, asB, asI, mRet, mRetN, xOf, mSkip, mExp, mSet, mSetF, shareE, mSetT, store, kill, mAnd, mOr, mNot, mAndV, mOrV, mNotV, mIte, mLst, mTup, mApp, pVar, atP, subS, setS, okE, Sh.beq, mPut, mIsN, mNotN, isNon, mIsi, mIsB, mNotB, mSl, oSo, oNo, elemsL, elemsR, mCL, mCLL, mCIL, mCI, mFrz, mAug, mBrk, mCnt, mPop, mRevL, iSq, iR1, iR2, iEn, iZp, iRv, ownB, wipeE, mYes, gs0, ss0, gs1, ss1, gs2, ss2, gs3, ss3, gs4, ss4, gs5, ss5, gs6, ss6, gs7, ss7, gs8, ss8, gs9, ss9, gs10, ss10, gs11, ss11, gs12, ss12, gs13, ss13, gs14, ss14, gs15, ss15, gs16, ss16, gs17, ss17, gs18, ss18, gs19, ss19, gs20, ss20, gs21, ss21, gs22, ss22, gs23, ss23, gs24, ss24, gs25, ss25, gs26, ss26, gs27, ss27, gs28, ss28, gs29, ss29, add_ii, sub_ii, mod_ii, div_ii, mul_ii, neg_i, lt_ii, le_ii, gt_ii, ge_ii, eq_ii, ne_ii, len_l, len_t, int_i, int_b, R.sha, ix_t0, ix_t1, ix_t2, ix_t3, eq_ss, ne_ss, eq_bb, ne_bb, ]
    · intro n hn
      refine ⟨_, rfl, .s, ?_⟩
      simp -implicitDefEqProofs (disch := omega) [mSeq, mIfS, mTv, mTr, truD, m2, m1, m3, mVar, mC, mCS, mCall, mCons, mNil, rdS, asB, asI, mRet, mRetN, xOf, mSkip, mExp, mSet, mSetF, shareE, mSetT, store, kill, mAnd, mOr, mNot, mAndV, mOrV, mNotV, mIte, mLst, mTup, mApp, pVar, atP, subS, setS, okE, Sh.beq, mPut, mIsN, mNotN, isNon, mIsi, mIsB, mNotB, mSl, oSo, oNo, elemsL, elemsR, mCL, mCLL, mCIL, mCI, mFrz, mAug, mBrk, mCnt, mPop, mRevL, iSq, iR1, iR2, iEn, iZp, iRv, ownB, wipeE, mYes, gs0, ss0, gs1, ss1, gs2, ss2, gs3, ss3, gs4, ss4, gs5, ss5, gs6, ss6, gs7, ss7, gs8, ss8, gs9, ss9, gs10, ss10, gs11, ss11, gs12, ss12, gs13, ss13, gs14, ss14, gs15, ss15, gs16, ss16, gs17, ss17, gs18, ss18, gs19, ss19, gs20, ss20, gs21, ss21, gs22, ss22, gs23, ss23, gs24, ss24, gs25, ss25, gs26, ss26, gs27, ss27, gs28, ss28, gs29, ss29, add_ii, sub_ii, mod_ii, div_ii, mul_ii, neg_i, lt_ii, le_ii, gt_ii, ge_ii, eq_ii, ne_ii, len_l, len_t, int_i, int_b, R.sha, ix_t0, ix_t1, ix_t2, ix_t3, eq_ss, ne_ss, eq_bb, ne_bb, noteD]
  have c2 : ∀ v1 v2, mLc (.s) (iSq (mVar 0)) [3] (tgN 3) (mYes) (m2 gIx (mVar 3) (mC (.int 1))) [some (.s, .list (ns.map noteD)), v1, v2, none, none, none, none, none] = some ⟨.l .s, .list (B.map .int), []⟩ := by
    intro v1 v2
    rw [hB, List.map_map]
    refine mLc_a (b := false) noteD ns _ ?_ (by omega) ?_
    · simp -implicitDefEqProofs (disch := omega) [mSeq, mIfS, mTv, mTr, truD, m2, m1, m3, mVar, mC, mCS, mCall, mCons, mNil, rdS, asB, asI, mRet, mRetN, xOf, mSkip, mExp, mSet, mSetF, shareE, mSetT, store, kill, mAnd, mOr, mNot, mAndV, mOrV, mNotV, mIte, mLst, mTup, mApp, pVar, atP, subS, setS, okE, Sh.beq, mPut, mIsN, mNotN, isNon, mIsi, mIsB, mNotB, mSl, oSo, oNo, elemsL, elemsR, mCL, mCLL, mCIL, mCI, mFrz, mAug, mBrk, mCnt, mPop, mRevL, iSq, iR1, iR2, iEn, iZp, iRv, ownB, wipeE, mYes, gs0, ss0, gs1, ss1, gs2, ss2, gs3, ss3, gs4, ss4, gs5, ss5, gs6, ss6, gs7, ss7, gs8, ss8, gs9, ss9, gs10, ss10, gs11, ss11, gs12, ss12, gs13, ss13, gs14, ss14, gs15, ss15, gs16, ss16, gs17, ss17, gs18, ss18, gs19, ss19, gs20, ss20, gs21, ss21, gs22, ss22, gs23, ss23, gs24, ss24, gs25, ss25, gs26, ss26, gs27, ss27, gs28, ss28, gs29, ss29, add_ii, sub_ii, mod_ii, div_ii, mul_ii, neg_i, lt_ii, le_ii, gt_ii, ge_ii, eq_ii, ne_ii, len_l, len_t, int_i, int_b, R.sha, ix_t0, ix_t1, ix_t2, ix_t3, eq_ss, ne_ss, eq_bb, ne_bb, ]
    · intro n hn
      refine ⟨_, rfl, .s, ?_⟩
      simp -implicitDefEqProofs (disch := omega) [mSeq, mIfS, mTv, mTr, truD, m2, m1, m3, mVar, mC, mCS, mCall, mCons, mNil, rdS, asB, asI, mRet, mRetN, xOf, mSkip, mExp, mSet, mSetF, shareE, mSetT, store, kill, mAnd, mOr, mNot, mAndV, mOrV, mNotV, mIte, mLst, mTup, mApp, pVar, atP, subS, setS, okE, Sh.beq, mPut, mIsN, mNotN, isNon, mIsi, mIsB, mNotB, mSl, oSo, oNo, elemsL, elemsR, mCL, mCLL, mCIL, mCI, mFrz, mAug, mBrk, mCnt, mPop, mRevL, iSq, iR1, iR2, iEn, iZp, iRv, ownB, wipeE, mYes, gs0, ss0, gs1, ss1, gs2, ss2, gs3, ss3, gs4, ss4, gs5, ss5, gs6, ss6, gs7, ss7, gs8, ss8, gs9, ss9, gs10, ss10, gs11, ss11, gs12, ss12, gs13, ss13, gs14, ss14, gs15, ss15, gs16, ss16, gs17, ss17, gs18, ss18, gs19, ss19, gs20, ss20, gs21, ss21, gs22, ss22, gs23, ss23, gs24, ss24, gs25, ss25, gs26, ss26, gs27, ss27, gs28, ss28, gs29, ss29, add_ii, sub_ii, mod_ii, div_ii, mul_ii, neg_i, lt_ii, le_ii, gt_ii, ge_ii, eq_ii, ne_ii, len_l, len_t, int_i, int_b, R.sha, ix_t0, ix_t1, ix_t2, ix_t3, eq_ss, ne_ss, eq_bb, ne_bb, noteD]
  have c3 := gMax_ints B lB1
  have hc := cutX_len A (some 0) (some 5)
  obtain ⟨M', w6, w7, f1, f2⟩ := mom_out (some (.s, .list (ns.map noteD))) (some (.s, .list (dr.map .int))) (some (.s, .list (A.map .int))) none B lB (cutX A (some 0) (some 5)) [(0, maxI B), (-1, maxI B), (5, 5), (7, 3), (nth dr 4 % 30, nth dr 5 % 40)] none none (by simp; omega)
  refine ⟨M', ?_, by simp at f2; omega⟩
  have c9 := mFor_of (mi := iSq (mSl (mVar 2) (oSo (mC (.int 0))) (oSo (mC (.int 5))))) (tg := tgN 6) (body := l2_law_moments) (by simp -implicitDefEqProofs (disch := omega) [mSeq_K, seqK_nx, seqK_rt, seqK_bk, seqK_ct, mIfS_K, ifK_t, ifK_f, mTv, mTr, truD, m2, m1, m3, mVar, mC, mCS, mCall, mCons, mNil, rdS, asB, asI, mRet, mRetN, xOf, mSkip, mExp, mSet, mSetF, shareE, mSetT, store, kill, mAnd_K, andK_t, andK_f, mOr_K, orK_t, orK_f, mNot, mAndV, mOrV, mNotV, mIte, mLst, mTup, mApp, pVar, atP, subS, setS, okE, Sh.beq, mPut, mIsN, mNotN, isNon, mIsi, mIsB, mNotB, mSl, oSo, oNo, mCL, mCLL, mCIL, mCI, mFrz, mAug, mBrk, mCnt, mPop, mRevL, iSq, iR1, iR2, iEn, iZp, iRv, ownB, wipeE, mYes, gs0, ss0, gs1, ss1, gs2, ss2, gs3, ss3, gs4, ss4, gs5, ss5, gs6, ss6, gs7, ss7, gs8, ss8, gs9, ss9, gs10, ss10, gs11, ss11, gs12, ss12, gs13, ss13, gs14, ss14, gs15, ss15, gs16, ss16, gs17, ss17, gs18, ss18, gs19, ss19, gs20, ss20, gs21, ss21, gs22, ss22, gs23, ss23, gs24, ss24, gs25, ss25, gs26, ss26, gs27, ss27, gs28, ss28, gs29, ss29, add_ii, sub_ii, mod_ii, div_ii, mul_ii, neg_i, lt_ii, le_ii, gt_ii, ge_ii, eq_ii, ne_ii, len_l, len_t, int_i, int_b, R.sha, ix_t0, ix_t1, ix_t2, ix_t3, eq_ss, ne_ss, eq_bb, ne_bb, sl_s]) f1
  clear f1
  simp only [List.map_cons, List.map_nil, pairD] at c9
  have c10 : b_law_moments [some (.s, .list (ns.map noteD)), some (.s, .list (dr.map .int)), none, none, none, none, none, none] = some (.rt (.l .s) (.list (M'.map pairD))) := by
    unfold b_law_moments
    simp -implicitDefEqProofs (disch := omega) [mSeq_K, seqK_nx, seqK_rt, seqK_bk, seqK_ct, mIfS_K, ifK_t, ifK_f, mTv, mTr, truD, m2, m1, m3, mVar, mC, mCS, mCall, mCons, mNil, rdS, asB, asI, mRet, mRetN, xOf, mSkip, mExp, mSet, mSetF, shareE, mSetT, store, kill, mAnd_K, andK_t, andK_f, mOr_K, orK_t, orK_f, mNot, mAndV, mOrV, mNotV, mIte, mLst, mTup, mApp, pVar, atP, subS, setS, okE, Sh.beq, mPut, mIsN, mNotN, isNon, mIsi, mIsB, mNotB, mSl, oSo, oNo, elemsL, elemsR, mCL, mCLL, mCIL, mCI, mFrz, mAug, mBrk, mCnt, mPop, mRevL, iSq, iR1, iR2, iEn, iZp, iRv, ownB, wipeE, mYes, gs0, ss0, gs1, ss1, gs2, ss2, gs3, ss3, gs4, ss4, gs5, ss5, gs6, ss6, gs7, ss7, gs8, ss8, gs9, ss9, gs10, ss10, gs11, ss11, gs12, ss12, gs13, ss13, gs14, ss14, gs15, ss15, gs16, ss16, gs17, ss17, gs18, ss18, gs19, ss19, gs20, ss20, gs21, ss21, gs22, ss22, gs23, ss23, gs24, ss24, gs25, ss25, gs26, ss26, gs27, ss27, gs28, ss28, gs29, ss29, add_ii, sub_ii, mod_ii, div_ii, mul_ii, neg_i, lt_ii, le_ii, gt_ii, ge_ii, eq_ii, ne_ii, len_l, len_t, int_i, int_b, R.sha, ix_t0, ix_t1, ix_t2, ix_t3, eq_ss, ne_ss, eq_bb, ne_bb, c1, c2, c3, c9, ix_mS, hdr]
  exact runF_rt (n := 8) rfl c10
end K56

set_option maxRecDepth 100000
set_option linter.all false
set_option maxHeartbeats 4000000
namespace K56
open PySem M L2
abbrev envL (ns : List Note) (left : List Int) (told : List (Option Nat)) (v4 v5 v6 v7 v8 : Option (Sh × D)) : M.Env := [some (.s, .list (ns.map noteD)), some (.l .s, .list (left.map .int)), none, some (.l .s, .list (told.map oD)), v4, v5, v6, v7, v8]
theorem later_body (ns : List Note) (left : List Int) (told : List (Option Nat)) (i : Int) (v5 v6 v7 v8 : Option (Sh × D)) (hl : left.length = ns.length) (hn : ns.length ≤ 8) (ht : told.length ≤ 1000) :
    ∃ x left' v5' v7', left'.length = ns.length ∧ l1_law_later_first (envL ns left told (some (.s, .int i)) v5 v6 v7 v8) = some (.nx (envL ns left' (told ++ [x]) (some (.s, .int i)) v5' v6 v7' v8)) := by
  have hz : sizeLine = 16777216 := sizeLine_val
  have hx' : told.length < 16777216 := by omega
  have hok : okR (ns.length : Int) = true := by simp [okR]; omega
  have c1 : mLc (.s) (iR1 (mCS gLen (mCons (mVar 0) (mNil)))) [6] (tgN 6) (mAnd (mTv (m2 gLe (m2 gIx (m2 gIx (mVar 0) (mVar 6)) (mC (.int 0))) (mVar 4))) (mAnd (mTv (m2 gLt (mVar 4) (m2 gIx (m2 gIx (mVar 0) (mVar 6)) (mC (.int 1))))) (mTv (m2 gGt (m2 gIx (mVar 1) (mVar 6)) (mC (.int 0)))))) (mTup (mCons (m2 gSub (mC (.int 0)) (m2 gIx (m2 gIx (mVar 0) (mVar 6)) (mC (.int 1)))) (mCons (mVar 6) (mNil)))) (envL ns left told (some (.s, .int i)) v5 v6 v7 v8)
      = some ⟨.l .s, .list ((((List.range ns.length).filter (fun k : Nat => decide ((nth ns k).a ≤ i) && (decide (i < (nth ns k).d) && decide (0 < nth left k)))).map fun k : Nat => (0 - (nth ns k).d, (k : Int))).map pairD), []⟩ := by
    rw [List.map_map]
    refine mLc_f (b := false) (fun k : Nat => PyData.int (k : Nat)) (List.range ns.length) _ _ ?_ ?_ ?_
    · simp -implicitDefEqProofs (disch := omega) [mSeq_K, seqK_nx, seqK_rt, seqK_bk, seqK_ct, mIfS_K, ifK_t, ifK_f, mTv, mTr, truD, m2, m1, m3, mVar, mC, mCS, mCall, mCons, mNil, rdS, asB, asI, mRet, mRetN, xOf, mSkip, mExp, mSet, mSetF, shareE, mSetT, store, kill, mAnd_K, andK_t, andK_f, mOr_K, orK_t, orK_f, mNot, mAndV, mOrV, mNotV, mIte, mLst, mTup, mApp, pVar, atP, subS, setS, okE, Sh.beq, mPut, mIsN, mNotN, isNon, mIsi, mIsB, mNotB, mSl, oSo, oNo, elemsL, elemsR, mCL, mCLL, mCIL, mCI, mFrz, mAug, mBrk, mCnt, mPop, mRevL, iSq, iR1, iR2, iEn, iZp, iRv, ownB, wipeE, mYes, gs0, ss0, gs1, ss1, gs2, ss2, gs3, ss3, gs4, ss4, gs5, ss5, gs6, ss6, gs7, ss7, gs8, ss8, gs9, ss9, gs10, ss10, gs11, ss11, gs12, ss12, gs13, ss13, gs14, ss14, gs15, ss15, gs16, ss16, gs17, ss17, gs18, ss18, gs19, ss19, gs20, ss20, gs21, ss21, gs22, ss22, gs23, ss23, gs24, ss24, gs25, ss25, gs26, ss26, gs27, ss27, gs28, ss28, gs29, ss29, add_ii, sub_ii, mod_ii, div_ii, mul_ii, neg_i, lt_ii, le_ii, gt_ii, ge_ii, eq_ii, ne_ii, len_l, len_t, int_i, int_b, R.sha, ix_t0, ix_t1, ix_t2, ix_t3, eq_ss, ne_ss, eq_bb, ne_bb, envL, hok, rng_map]
    · rw [List.length_range]; omega
    · intro k hk
      have hk := List.mem_range.mp hk
      refine ⟨_, rfl, ?_, fun _ => ⟨.s, ?_⟩⟩
      · simp -implicitDefEqProofs (disch := omega) [mSeq, mIfS, mTv, mTr, truD, m2, m1, m3, mVar, mC, mCS, mCall, mCons, mNil, rdS, asB, asI, mRet, mRetN, xOf, mSkip, mExp, mSet, mSetF, shareE, mSetT, store, kill, mAnd, mOr, mNot, mAndV, mOrV, mNotV, mIte, mLst, mTup, mApp, pVar, atP, subS, setS, okE, Sh.beq, mPut, mIsN, mNotN, isNon, mIsi, mIsB, mNotB, mSl, oSo, oNo, elemsL, elemsR, mCL, mCLL, mCIL, mCI, mFrz, mAug, mBrk, mCnt, mPop, mRevL, iSq, iR1, iR2, iEn, iZp, iRv, ownB, wipeE, mYes, gs0, ss0, gs1, ss1, gs2, ss2, gs3, ss3, gs4, ss4, gs5, ss5, gs6, ss6, gs7, ss7, gs8, ss8, gs9, ss9, gs10, ss10, gs11, ss11, gs12, ss12, gs13, ss13, gs14, ss14, gs15, ss15, gs16, ss16, gs17, ss17, gs18, ss18, gs19, ss19, gs20, ss20, gs21, ss21, gs22, ss22, gs23, ss23, gs24, ss24, gs25, ss25, gs26, ss26, gs27, ss27, gs28, ss28, gs29, ss29, add_ii, sub_ii, mod_ii, div_ii, mul_ii, neg_i, lt_ii, le_ii, gt_ii, ge_ii, eq_ii, ne_ii, len_l, len_t, int_i, int_b, R.sha, ix_t0, ix_t1, ix_t2, ix_t3, eq_ss, ne_ss, eq_bb, ne_bb, envL, ix_mS, ix_mL, noteD]
        by_cases q : (nth ns k).a ≤ i
        · by_cases q2 : i < (nth ns k).d <;> simp [q, q2]
        · simp [q]
      · simp -implicitDefEqProofs (disch := omega) [mSeq, mIfS, mTv, mTr, truD, m2, m1, m3, mVar, mC, mCS, mCall, mCons, mNil, rdS, asB, asI, mRet, mRetN, xOf, mSkip, mExp, mSet, mSetF, shareE, mSetT, store, kill, mAnd, mOr, mNot, mAndV, mOrV, mNotV, mIte, mLst, mTup, mApp, pVar, atP, subS, setS, okE, Sh.beq, mPut, mIsN, mNotN, isNon, mIsi, mIsB, mNotB, mSl, oSo, oNo, elemsL, elemsR, mCL, mCLL, mCIL, mCI, mFrz, mAug, mBrk, mCnt, mPop, mRevL, iSq, iR1, iR2, iEn, iZp, iRv, ownB, wipeE, mYes, gs0, ss0, gs1, ss1, gs2, ss2, gs3, ss3, gs4, ss4, gs5, ss5, gs6, ss6, gs7, ss7, gs8, ss8, gs9, ss9, gs10, ss10, gs11, ss11, gs12, ss12, gs13, ss13, gs14, ss14, gs15, ss15, gs16, ss16, gs17, ss17, gs18, ss18, gs19, ss19, gs20, ss20, gs21, ss21, gs22, ss22, gs23, ss23, gs24, ss24, gs25, ss25, gs26, ss26, gs27, ss27, gs28, ss28, gs29, ss29, add_ii, sub_ii, mod_ii, div_ii, mul_ii, neg_i, lt_ii, le_ii, gt_ii, ge_ii, eq_ii, ne_ii, len_l, len_t, int_i, int_b, R.sha, ix_t0, ix_t1, ix_t2, ix_t3, eq_ss, ne_ss, eq_bb, ne_bb, envL, ix_mS, ix_mL, noteD, pairD, Function.comp]
  obtain ⟨xs, hxs⟩ : ∃ xs, xs = ((List.range ns.length).filter (fun k : Nat => decide ((nth ns k).a ≤ i) && (decide (i < (nth ns k).d) && decide (0 < nth left k)))).map fun k : Nat => (0 - (nth ns k).d, (k : Int)) := ⟨_, rfl⟩
  rw [← hxs] at c1
  have hk : ∀ y ∈ xs, ∃ k : Nat, k < ns.length ∧ y.2 = k := by
    intro y hy
    rw [hxs, List.mem_map] at hy
    obtain ⟨k, hk, rfl⟩ := hy
    exact ⟨k, List.mem_range.mp (List.mem_filter.mp hk).1, rfl⟩
  have lx : xs.length ≤ 8 := by
    rw [hxs, List.length_map]
    exact Nat.le_trans (List.length_filter_le _ _) (by rw [List.length_range]; exact hn)
  clear hxs
  have c2 : mLc (.s) (iSq (mVar 5)) [8] (tgN 8) (mTv (m2 (g2S gEq) (m2 gIx (mVar 1) (m2 gIx (mVar 8) (mC (.int 1)))) (m2 gSub (m2 gIx (m2 gIx (mVar 0) (m2 gIx (mVar 8) (mC (.int 1)))) (mC (.int 1))) (mVar 4)))) (mVar 8) (envL ns left told (some (.s, .int i)) (some (.s, .list (xs.map pairD))) v6 v7 v8)
      = some ⟨.l .s, .list ((xs.filter fun y => decide (nth left y.2.toNat = (nth ns y.2.toNat).d - i)).map pairD), []⟩ := by
    refine mLc_f (b := false) pairD xs _ _ ?_ (by omega) ?_
    · simp -implicitDefEqProofs (disch := omega) [mSeq_K, seqK_nx, seqK_rt, seqK_bk, seqK_ct, mIfS_K, ifK_t, ifK_f, mTv, mTr, truD, m2, m1, m3, mVar, mC, mCS, mCall, mCons, mNil, rdS, asB, asI, mRet, mRetN, xOf, mSkip, mExp, mSet, mSetF, shareE, mSetT, store, kill, mAnd_K, andK_t, andK_f, mOr_K, orK_t, orK_f, mNot, mAndV, mOrV, mNotV, mIte, mLst, mTup, mApp, pVar, atP, subS, setS, okE, Sh.beq, mPut, mIsN, mNotN, isNon, mIsi, mIsB, mNotB, mSl, oSo, oNo, elemsL, elemsR, mCL, mCLL, mCIL, mCI, mFrz, mAug, mBrk, mCnt, mPop, mRevL, iSq, iR1, iR2, iEn, iZp, iRv, ownB, wipeE, mYes, gs0, ss0, gs1, ss1, gs2, ss2, gs3, ss3, gs4, ss4, gs5, ss5, gs6, ss6, gs7, ss7, gs8, ss8, gs9, ss9, gs10, ss10, gs11, ss11, gs12, ss12, gs13, ss13, gs14, ss14, gs15, ss15, gs16, ss16, gs17, ss17, gs18, ss18, gs19, ss19, gs20, ss20, gs21, ss21, gs22, ss22, gs23, ss23, gs24, ss24, gs25, ss25, gs26, ss26, gs27, ss27, gs28, ss28, gs29, ss29, add_ii, sub_ii, mod_ii, div_ii, mul_ii, neg_i, lt_ii, le_ii, gt_ii, ge_ii, eq_ii, ne_ii, len_l, len_t, int_i, int_b, R.sha, ix_t0, ix_t1, ix_t2, ix_t3, eq_ss, ne_ss, eq_bb, ne_bb, envL]
    · intro y hy
      obtain ⟨k, hk1, hk2⟩ := hk y hy
      refine ⟨_, rfl, ?_, fun _ => ⟨.s, ?_⟩⟩
      · simp -implicitDefEqProofs (disch := omega) [mSeq, mIfS, mTv, mTr, truD, m2, m1, m3, mVar, mC, mCS, mCall, mCons, mNil, rdS, asB, asI, mRet, mRetN, xOf, mSkip, mExp, mSet, mSetF, shareE, mSetT, store, kill, mAnd, mOr, mNot, mAndV, mOrV, mNotV, mIte, mLst, mTup, mApp, pVar, atP, subS, setS, okE, Sh.beq, mPut, mIsN, mNotN, isNon, mIsi, mIsB, mNotB, mSl, oSo, oNo, elemsL, elemsR, mCL, mCLL, mCIL, mCI, mFrz, mAug, mBrk, mCnt, mPop, mRevL, iSq, iR1, iR2, iEn, iZp, iRv, ownB, wipeE, mYes, gs0, ss0, gs1, ss1, gs2, ss2, gs3, ss3, gs4, ss4, gs5, ss5, gs6, ss6, gs7, ss7, gs8, ss8, gs9, ss9, gs10, ss10, gs11, ss11, gs12, ss12, gs13, ss13, gs14, ss14, gs15, ss15, gs16, ss16, gs17, ss17, gs18, ss18, gs19, ss19, gs20, ss20, gs21, ss21, gs22, ss22, gs23, ss23, gs24, ss24, gs25, ss25, gs26, ss26, gs27, ss27, gs28, ss28, gs29, ss29, add_ii, sub_ii, mod_ii, div_ii, mul_ii, neg_i, lt_ii, le_ii, gt_ii, ge_ii, eq_ii, ne_ii, len_l, len_t, int_i, int_b, R.sha, ix_t0, ix_t1, ix_t2, ix_t3, eq_ss, ne_ss, eq_bb, ne_bb, envL, ix_mS, ix_mL, noteD, pairD]
      · simp -implicitDefEqProofs (disch := omega) [mSeq, mIfS, mTv, mTr, truD, m2, m1, m3, mVar, mC, mCS, mCall, mCons, mNil, rdS, asB, asI, mRet, mRetN, xOf, mSkip, mExp, mSet, mSetF, shareE, mSetT, store, kill, mAnd, mOr, mNot, mAndV, mOrV, mNotV, mIte, mLst, mTup, mApp, pVar, atP, subS, setS, okE, Sh.beq, mPut, mIsN, mNotN, isNon, mIsi, mIsB, mNotB, mSl, oSo, oNo, elemsL, elemsR, mCL, mCLL, mCIL, mCI, mFrz, mAug, mBrk, mCnt, mPop, mRevL, iSq, iR1, iR2, iEn, iZp, iRv, ownB, wipeE, mYes, gs0, ss0, gs1, ss1, gs2, ss2, gs3, ss3, gs4, ss4, gs5, ss5, gs6, ss6, gs7, ss7, gs8, ss8, gs9, ss9, gs10, ss10, gs11, ss11, gs12, ss12, gs13, ss13, gs14, ss14, gs15, ss15, gs16, ss16, gs17, ss17, gs18, ss18, gs19, ss19, gs20, ss20, gs21, ss21, gs22, ss22, gs23, ss23, gs24, ss24, gs25, ss25, gs26, ss26, gs27, ss27, gs28, ss28, gs29, ss29, add_ii, sub_ii, mod_ii, div_ii, mul_ii, neg_i, lt_ii, le_ii, gt_ii, ge_ii, eq_ii, ne_ii, len_l, len_t, int_i, int_b, R.sha, ix_t0, ix_t1, ix_t2, ix_t3, eq_ss, ne_ss, eq_bb, ne_bb, envL]
  obtain ⟨ts, hts⟩ : ∃ ts, ts = xs.filter fun y => decide (nth left y.2.toNat = (nth ns y.2.toNat).d - i) := ⟨_, rfl⟩
  rw [← hts] at c2
  have hk2 : ∀ y ∈ ts, ∃ k : Nat, k < ns.length ∧ y.2 = k := by
    intro y hy
    rw [hts] at hy
    exact hk y (List.mem_filter.mp hy).1
  clear hts
  simp only [envL] at c1 c2
  have some_ok : ∀ zs : List (Int × Int), (∀ y ∈ zs, ∃ k : Nat, k < ns.length ∧ y.2 = k) → ∃ x left', left'.length = ns.length ∧ mIfS (mTv (m2 gGt (mCS gLen (mCons (mVar 5) (mNil))) (mC (.int 0)))) (mSeq (mExp (mApp 3 (pVar 3) (m2 gIx (mCIL gMin (mVar 5)) (mC (.int 1))))) (mPut 1 (m2 gSub (m2 gIx (mVar 1) (m2 gIx (mCIL gMin (mVar 5)) (mC (.int 1)))) (mC (.int 1))) (pVar 1) (m2 gIx (mCIL gMin (mVar 5)) (mC (.int 1))))) (mExp (mApp 3 (pVar 3) (mC .none))) (envL ns left told (some (.s, .int i)) (some (.s, .list (zs.map pairD))) v6 (some (.s, .list (ts.map pairD))) v8)
      = some (.nx (envL ns left' (told ++ [x]) (some (.s, .int i)) (some (.s, .list (zs.map pairD))) v6 (some (.s, .list (ts.map pairD))) v8)) := by
    intro zs hzs
    by_cases h0 : 0 < zs.length
    · obtain ⟨y, hy, e1⟩ := gMin_pairs zs h0
      obtain ⟨k, hk1, hk2⟩ := hzs y hy
      have e3 : ixN ns.length (k : Int) = some k := ixN_i (by omega) (by omega)
      have e4 : pairD y = .tuple [.int y.1, .int k] := by unfold pairD; rw [hk2]
      rw [e4] at e1
      refine ⟨some k, left.set k (nth left k - 1), by rw [List.length_set]; exact hl, ?_⟩
      simp -implicitDefEqProofs (disch := omega) [mSeq_K, seqK_nx, seqK_rt, seqK_bk, seqK_ct, mIfS_K, ifK_t, ifK_f, mTv, mTr, truD, m2, m1, m3, mVar, mC, mCS, mCall, mCons, mNil, rdS, asB, asI, mRet, mRetN, xOf, mSkip, mExp, mSet, mSetF, shareE, mSetT, store, kill, mAnd_K, andK_t, andK_f, mOr_K, orK_t, orK_f, mNot, mAndV, mOrV, mNotV, mIte, mLst, mTup, mApp, pVar, atP, subS, setS, okE, Sh.beq, mPut, mIsN, mNotN, isNon, mIsi, mIsB, mNotB, mSl, oSo, oNo, elemsL, elemsR, mCL, mCLL, mCIL, mCI, mFrz, mAug, mBrk, mCnt, mPop, mRevL, iSq, iR1, iR2, iEn, iZp, iRv, ownB, wipeE, mYes, gs0, ss0, gs1, ss1, gs2, ss2, gs3, ss3, gs4, ss4, gs5, ss5, gs6, ss6, gs7, ss7, gs8, ss8, gs9, ss9, gs10, ss10, gs11, ss11, gs12, ss12, gs13, ss13, gs14, ss14, gs15, ss15, gs16, ss16, gs17, ss17, gs18, ss18, gs19, ss19, gs20, ss20, gs21, ss21, gs22, ss22, gs23, ss23, gs24, ss24, gs25, ss25, gs26, ss26, gs27, ss27, gs28, ss28, gs29, ss29, add_ii, sub_ii, mod_ii, div_ii, mul_ii, neg_i, lt_ii, le_ii, gt_ii, ge_ii, eq_ii, ne_ii, len_l, len_t, int_i, int_b, R.sha, ix_t0, ix_t1, ix_t2, ix_t3, eq_ss, ne_ss, eq_bb, ne_bb, envL, h0, e1, hz, hx', oD, e3, hl, ix_mL, List.map_set]
    · have h1 : zs = [] := List.eq_nil_of_length_eq_zero (by omega)
      subst h1
      refine ⟨none, left, hl, ?_⟩
      simp -implicitDefEqProofs (disch := omega) [mSeq_K, seqK_nx, seqK_rt, seqK_bk, seqK_ct, mIfS_K, ifK_t, ifK_f, mTv, mTr, truD, m2, m1, m3, mVar, mC, mCS, mCall, mCons, mNil, rdS, asB, asI, mRet, mRetN, xOf, mSkip, mExp, mSet, mSetF, shareE, mSetT, store, kill, mAnd_K, andK_t, andK_f, mOr_K, orK_t, orK_f, mNot, mAndV, mOrV, mNotV, mIte, mLst, mTup, mApp, pVar, atP, subS, setS, okE, Sh.beq, mPut, mIsN, mNotN, isNon, mIsi, mIsB, mNotB, mSl, oSo, oNo, elemsL, elemsR, mCL, mCLL, mCIL, mCI, mFrz, mAug, mBrk, mCnt, mPop, mRevL, iSq, iR1, iR2, iEn, iZp, iRv, ownB, wipeE, mYes, gs0, ss0, gs1, ss1, gs2, ss2, gs3, ss3, gs4, ss4, gs5, ss5, gs6, ss6, gs7, ss7, gs8, ss8, gs9, ss9, gs10, ss10, gs11, ss11, gs12, ss12, gs13, ss13, gs14, ss14, gs15, ss15, gs16, ss16, gs17, ss17, gs18, ss18, gs19, ss19, gs20, ss20, gs21, ss21, gs22, ss22, gs23, ss23, gs24, ss24, gs25, ss25, gs26, ss26, gs27, ss27, gs28, ss28, gs29, ss29, add_ii, sub_ii, mod_ii, div_ii, mul_ii, neg_i, lt_ii, le_ii, gt_ii, ge_ii, eq_ii, ne_ii, len_l, len_t, int_i, int_b, R.sha, ix_t0, ix_t1, ix_t2, ix_t3, eq_ss, ne_ss, eq_bb, ne_bb, envL, hz, hx', oD]
  unfold l1_law_later_first
  generalize mIfS (mTv (m2 gGt (mCS gLen (mCons (mVar 5) (mNil))) (mC (.int 0)))) (mSeq (mExp (mApp 3 (pVar 3) (m2 gIx (mCIL gMin (mVar 5)) (mC (.int 1))))) (mPut 1 (m2 gSub (m2 gIx (mVar 1) (m2 gIx (mCIL gMin (mVar 5)) (mC (.int 1)))) (mC (.int 1))) (pVar 1) (m2 gIx (mCIL gMin (mVar 5)) (mC (.int 1))))) (mExp (mApp 3 (pVar 3) (mC .none))) = G at some_ok ⊢
  by_cases ht0 : 0 < ts.length
  · obtain ⟨x, left', e1, e2⟩ := some_ok ts hk2
    refine ⟨x, left', some (.s, .list (ts.map pairD)), some (.s, .list (ts.map pairD)), e1, ?_⟩
    simp only [envL] at e2
    simp -implicitDefEqProofs (disch := omega) [mSeq_K, seqK_nx, seqK_rt, seqK_bk, seqK_ct, mIfS_K, ifK_t, ifK_f, mTv, mTr, truD, m2, m1, m3, mVar, mC, mCS, mCall, mCons, mNil, rdS, asB, asI, mRet, mRetN, xOf, mSkip, mExp, mSet, mSetF, shareE, mSetT, store, kill, mAnd_K, andK_t, andK_f, mOr_K, orK_t, orK_f, mNot, mAndV, mOrV, mNotV, mIte, mLst, mTup, mApp, pVar, atP, subS, setS, okE, Sh.beq, mPut, mIsN, mNotN, isNon, mIsi, mIsB, mNotB, mSl, oSo, oNo, elemsL, elemsR, mCL, mCLL, mCIL, mCI, mFrz, mAug, mBrk, mCnt, mPop, mRevL, iSq, iR1, iR2, iEn, iZp, iRv, ownB, wipeE, mYes, gs0, ss0, gs1, ss1, gs2, ss2, gs3, ss3, gs4, ss4, gs5, ss5, gs6, ss6, gs7, ss7, gs8, ss8, gs9, ss9, gs10, ss10, gs11, ss11, gs12, ss12, gs13, ss13, gs14, ss14, gs15, ss15, gs16, ss16, gs17, ss17, gs18, ss18, gs19, ss19, gs20, ss20, gs21, ss21, gs22, ss22, gs23, ss23, gs24, ss24, gs25, ss25, gs26, ss26, gs27, ss27, gs28, ss28, gs29, ss29, add_ii, sub_ii, mod_ii, div_ii, mul_ii, neg_i, lt_ii, le_ii, gt_ii, ge_ii, eq_ii, ne_ii, len_l, len_t, int_i, int_b, R.sha, ix_t0, ix_t1, ix_t2, ix_t3, eq_ss, ne_ss, eq_bb, ne_bb, envL, c1, c2, ht0, e2]
  · obtain ⟨x, left', e1, e2⟩ := some_ok xs hk
    refine ⟨x, left', some (.s, .list (xs.map pairD)), some (.s, .list (ts.map pairD)), e1, ?_⟩
    simp only [envL] at e2
    simp -implicitDefEqProofs (disch := omega) [mSeq_K, seqK_nx, seqK_rt, seqK_bk, seqK_ct, mIfS_K, ifK_t, ifK_f, mTv, mTr, truD, m2, m1, m3, mVar, mC, mCS, mCall, mCons, mNil, rdS, asB, asI, mRet, mRetN, xOf, mSkip, mExp, mSet, mSetF, shareE, mSetT, store, kill, mAnd_K, andK_t, andK_f, mOr_K, orK_t, orK_f, mNot, mAndV, mOrV, mNotV, mIte, mLst, mTup, mApp, pVar, atP, subS, setS, okE, Sh.beq, mPut, mIsN, mNotN, isNon, mIsi, mIsB, mNotB, mSl, oSo, oNo, elemsL, elemsR, mCL, mCLL, mCIL, mCI, mFrz, mAug, mBrk, mCnt, mPop, mRevL, iSq, iR1, iR2, iEn, iZp, iRv, ownB, wipeE, mYes, gs0, ss0, gs1, ss1, gs2, ss2, gs3, ss3, gs4, ss4, gs5, ss5, gs6, ss6, gs7, ss7, gs8, ss8, gs9, ss9, gs10, ss10, gs11, ss11, gs12, ss12, gs13, ss13, gs14, ss14, gs15, ss15, gs16, ss16, gs17, ss17, gs18, ss18, gs19, ss19, gs20, ss20, gs21, ss21, gs22, ss22, gs23, ss23, gs24, ss24, gs25, ss25, gs26, ss26, gs27, ss27, gs28, ss28, gs29, ss29, add_ii, sub_ii, mod_ii, div_ii, mul_ii, neg_i, lt_ii, le_ii, gt_ii, ge_ii, eq_ii, ne_ii, len_l, len_t, int_i, int_b, R.sha, ix_t0, ix_t1, ix_t2, ix_t3, eq_ss, ne_ss, eq_bb, ne_bb, envL, c1, c2, ht0, e2]
theorem forL_nx {b : D → M.Env → Option Out} {d : D} {ds : List D} {e e' : M.Env} (h : b d e = some (.nx e')) : forL b (d :: ds) e = forL b ds e' := by
  rw [forL, h]
theorem lf_ps (ps : List Piece) : lfOwn (.l .s) (.list (ps.map pieceD)) = true := by
  have : ∀ ps : List Piece, lfAll .s (ps.map pieceD) = true := by
    intro ps
    induction ps with
    | nil => rw [List.map_nil, lfAll]
    | cons p ps ih =>
      rw [List.map_cons, lfAll, ih]
      simp [lfOwn, pieceD, lfree, lfrees]
  rw [lfOwn]; exact this ps
theorem later_loop (ns : List Note) (hn : ns.length ≤ 8) (is : List D) : ∀ (left : List Int) (told : List (Option Nat)) (v4 v5 v6 v7 v8 : Option (Sh × D)), (∀ d ∈ is, ∃ i : Int, d = .int i) → left.length = ns.length → told.length + is.length ≤ 1000 →
    ∃ (left' : List Int) (told' : List (Option Nat)) (w4 w5 w6 w7 w8 : Option (Sh × D)), forL (fun d e => (tgN 4 e d).bind l1_law_later_first) is (envL ns left told v4 v5 v6 v7 v8) = some (.nx (envL ns left' told' w4 w5 w6 w7 w8)) ∧ told'.length = told.length + is.length := by
  induction is with
  | nil => intro left told v4 v5 v6 v7 v8 _ _ _; exact ⟨left, told, v4, v5, v6, v7, v8, rfl, rfl⟩
  | cons d is ih =>
    intro left told v4 v5 v6 v7 v8 hd hl ht
    rw [List.length_cons] at ht
    obtain ⟨i, rfl⟩ := hd d List.mem_cons_self
    obtain ⟨x, left1, w5, w7, e1, e2⟩ := later_body ns left told i v5 v6 v7 v8 hl hn (by omega)
    have hb := (tgN_bind (f := l1_law_later_first) (env := envL ns left told v4 v5 v6 v7 v8) (i := 4) (d := .int i) (by decide : 4 < 9)).trans e2
    obtain ⟨left', told', u4, u5, u6, u7, u8, e3, e4⟩ := ih left1 (told ++ [x]) (some (.s, .int i)) w5 v6 w7 v8 (fun d hd' => hd d (List.mem_cons_of_mem _ hd')) e1 (by rw [List.length_append, List.length_singleton]; omega)
    rw [List.length_append, List.length_singleton] at e4
    refine ⟨left', told', u4, u5, u6, u7, u8, ?_, by rw [e4, List.length_cons]; omega⟩
    exact (forL_nx (b := fun d e => (tgN 4 e d).bind l1_law_later_first) hb).trans e3
theorem later_ok (ns : List Note) (hg : GoodNs ns) : ∃ (ps : List Piece) (told : List (Option Nat)), m_law_later_first [.list (ns.map noteD)] = some (.l .s, psD ps) ∧ Pcs told ps told.length ∧ told.length ≤ 100 := by
  have hn1 := hg.1
  have hn8 := hg.2.1
  have hd := maxd_b hg
  obtain ⟨mx, hmx⟩ : ∃ mx, mx = maxI (ns.map Note.d) := ⟨_, rfl⟩
  have hok : okR mx = true := by simp [okR]; omega
  obtain ⟨B, hB⟩ : ∃ B, B = ns.map Note.b := ⟨_, rfl⟩
  have c1 : mLc (.s) (iSq (mVar 0)) [2] (tgN 2) (mYes) (m2 gIx (mVar 2) (mC (.int 2))) [some (.s, .list (ns.map noteD)), none, none, none, none, none, none, none, none] = some ⟨.l .s, .list (B.map .int), []⟩ := by
    rw [hB, List.map_map]
    refine mLc_a (b := false) noteD ns _ ?_ (by omega) ?_
    · simp -implicitDefEqProofs (disch := omega) [mSeq, mIfS, mTv, mTr, truD, m2, m1, m3, mVar, mC, mCS, mCall, mCons, mNil, rdS, asB, asI, mRet, mRetN, xOf, mSkip, mExp, mSet, mSetF, shareE, mSetT, store, kill, mAnd, mOr, mNot, mAndV, mOrV, mNotV, mIte, mLst, mTup, mApp, pVar, atP, subS, setS, okE, Sh.beq, mPut, mIsN, mNotN, isNon, mIsi, mIsB, mNotB, mSl, oSo, oNo, elemsL, elemsR, mCL, mCLL, mCIL, mCI, mFrz, mAug, mBrk, mCnt, mPop, mRevL, iSq, iR1, iR2, iEn, iZp, iRv, ownB, wipeE, mYes, gs0, ss0, gs1, ss1, gs2, ss2, gs3, ss3, gs4, ss4, gs5, ss5, gs6, ss6, gs7, ss7, gs8, ss8, gs9, ss9, gs10, ss10, gs11, ss11, gs12, ss12, gs13, ss13, gs14, ss14, gs15, ss15, gs16, ss16, gs17, ss17, gs18, ss18, gs19, ss19, gs20, ss20, gs21, ss21, gs22, ss22, gs23, ss23, gs24, ss24, gs25, ss25, gs26, ss26, gs27, ss27, gs28, ss28, gs29, ss29, add_ii, sub_ii, mod_ii, div_ii, mul_ii, neg_i, lt_ii, le_ii, gt_ii, ge_ii, eq_ii, ne_ii, len_l, len_t, int_i, int_b, R.sha, ix_t0, ix_t1, ix_t2, ix_t3, eq_ss, ne_ss, eq_bb, ne_bb, ]
    · intro n hn
      refine ⟨_, rfl, .s, ?_⟩
      simp -implicitDefEqProofs (disch := omega) [mSeq, mIfS, mTv, mTr, truD, m2, m1, m3, mVar, mC, mCS, mCall, mCons, mNil, rdS, asB, asI, mRet, mRetN, xOf, mSkip, mExp, mSet, mSetF, shareE, mSetT, store, kill, mAnd, mOr, mNot, mAndV, mOrV, mNotV, mIte, mLst, mTup, mApp, pVar, atP, subS, setS, okE, Sh.beq, mPut, mIsN, mNotN, isNon, mIsi, mIsB, mNotB, mSl, oSo, oNo, elemsL, elemsR, mCL, mCLL, mCIL, mCI, mFrz, mAug, mBrk, mCnt, mPop, mRevL, iSq, iR1, iR2, iEn, iZp, iRv, ownB, wipeE, mYes, gs0, ss0, gs1, ss1, gs2, ss2, gs3, ss3, gs4, ss4, gs5, ss5, gs6, ss6, gs7, ss7, gs8, ss8, gs9, ss9, gs10, ss10, gs11, ss11, gs12, ss12, gs13, ss13, gs14, ss14, gs15, ss15, gs16, ss16, gs17, ss17, gs18, ss18, gs19, ss19, gs20, ss20, gs21, ss21, gs22, ss22, gs23, ss23, gs24, ss24, gs25, ss25, gs26, ss26, gs27, ss27, gs28, ss28, gs29, ss29, add_ii, sub_ii, mod_ii, div_ii, mul_ii, neg_i, lt_ii, le_ii, gt_ii, ge_ii, eq_ii, ne_ii, len_l, len_t, int_i, int_b, R.sha, ix_t0, ix_t1, ix_t2, ix_t3, eq_ss, ne_ss, eq_bb, ne_bb, noteD]
  have c2 : ∀ v1 v3, mLc (.s) (iSq (mVar 0)) [2] (tgN 2) (mYes) (m2 gIx (mVar 2) (mC (.int 1))) [some (.s, .list (ns.map noteD)), v1, none, v3, none, none, none, none, none] = some ⟨.l .s, .list (ns.map fun n => PyData.int n.d), []⟩ := by
    intro v1 v3
    refine mLc_a (b := false) noteD ns _ ?_ (by omega) ?_
    · simp -implicitDefEqProofs (disch := omega) [mSeq, mIfS, mTv, mTr, truD, m2, m1, m3, mVar, mC, mCS, mCall, mCons, mNil, rdS, asB, asI, mRet, mRetN, xOf, mSkip, mExp, mSet, mSetF, shareE, mSetT, store, kill, mAnd, mOr, mNot, mAndV, mOrV, mNotV, mIte, mLst, mTup, mApp, pVar, atP, subS, setS, okE, Sh.beq, mPut, mIsN, mNotN, isNon, mIsi, mIsB, mNotB, mSl, oSo, oNo, elemsL, elemsR, mCL, mCLL, mCIL, mCI, mFrz, mAug, mBrk, mCnt, mPop, mRevL, iSq, iR1, iR2, iEn, iZp, iRv, ownB, wipeE, mYes, gs0, ss0, gs1, ss1, gs2, ss2, gs3, ss3, gs4, ss4, gs5, ss5, gs6, ss6, gs7, ss7, gs8, ss8, gs9, ss9, gs10, ss10, gs11, ss11, gs12, ss12, gs13, ss13, gs14, ss14, gs15, ss15, gs16, ss16, gs17, ss17, gs18, ss18, gs19, ss19, gs20, ss20, gs21, ss21, gs22, ss22, gs23, ss23, gs24, ss24, gs25, ss25, gs26, ss26, gs27, ss27, gs28, ss28, gs29, ss29, add_ii, sub_ii, mod_ii, div_ii, mul_ii, neg_i, lt_ii, le_ii, gt_ii, ge_ii, eq_ii, ne_ii, len_l, len_t, int_i, int_b, R.sha, ix_t0, ix_t1, ix_t2, ix_t3, eq_ss, ne_ss, eq_bb, ne_bb, ]
    · intro n hn
      refine ⟨_, rfl, .s, ?_⟩
      simp -implicitDefEqProofs (disch := omega) [mSeq, mIfS, mTv, mTr, truD, m2, m1, m3, mVar, mC, mCS, mCall, mCons, mNil, rdS, asB, asI, mRet, mRetN, xOf, mSkip, mExp, mSet, mSetF, shareE, mSetT, store, kill, mAnd, mOr, mNot, mAndV, mOrV, mNotV, mIte, mLst, mTup, mApp, pVar, atP, subS, setS, okE, Sh.beq, mPut, mIsN, mNotN, isNon, mIsi, mIsB, mNotB, mSl, oSo, oNo, elemsL, elemsR, mCL, mCLL, mCIL, mCI, mFrz, mAug, mBrk, mCnt, mPop, mRevL, iSq, iR1, iR2, iEn, iZp, iRv, ownB, wipeE, mYes, gs0, ss0, gs1, ss1, gs2, ss2, gs3, ss3, gs4, ss4, gs5, ss5, gs6, ss6, gs7, ss7, gs8, ss8, gs9, ss9, gs10, ss10, gs11, ss11, gs12, ss12, gs13, ss13, gs14, ss14, gs15, ss15, gs16, ss16, gs17, ss17, gs18, ss18, gs19, ss19, gs20, ss20, gs21, ss21, gs22, ss22, gs23, ss23, gs24, ss24, gs25, ss25, gs26, ss26, gs27, ss27, gs28, ss28, gs29, ss29, add_ii, sub_ii, mod_ii, div_ii, mul_ii, neg_i, lt_ii, le_ii, gt_ii, ge_ii, eq_ii, ne_ii, len_l, len_t, int_i, int_b, R.sha, ix_t0, ix_t1, ix_t2, ix_t3, eq_ss, ne_ss, eq_bb, ne_bb, noteD]
  have c3 := gMax_f Note.d ns (by omega)
  rw [← hmx] at c3
  obtain ⟨left', told', w4, w5, w6, w7, w8, f1, f2⟩ := later_loop ns hn8 (rngD 0 mx.toNat) B [] none none none none none (fun d hd' => by
    obtain ⟨i, hi⟩ := List.getElem?_of_mem hd'
    obtain ⟨_, rfl⟩ := rngD_at hi
    exact ⟨_, rfl⟩) (by rw [hB, List.length_map]) (by rw [rngD_len]; simp; omega)
  simp only [envL, List.map_nil] at f1
  simp only [List.length_nil, Nat.zero_add, rngD_len] at f2
  obtain ⟨ps, e1, hP⟩ := pieces_ok told' (by omega)
  refine ⟨ps, told', ?_, hP, by omega⟩
  have c9 := mFor_of (mi := iR1 (mCIL gMax (mLc (.s) (iSq (mVar 0)) [2] (tgN 2) (mYes) (m2 gIx (mVar 2) (mC (.int 1)))))) (tg := tgN 4) (body := l1_law_later_first) (by simp -implicitDefEqProofs (disch := omega) [mSeq_K, seqK_nx, seqK_rt, seqK_bk, seqK_ct, mIfS_K, ifK_t, ifK_f, mTv, mTr, truD, m2, m1, m3, mVar, mC, mCS, mCall, mCons, mNil, rdS, asB, asI, mRet, mRetN, xOf, mSkip, mExp, mSet, mSetF, shareE, mSetT, store, kill, mAnd_K, andK_t, andK_f, mOr_K, orK_t, orK_f, mNot, mAndV, mOrV, mNotV, mIte, mLst, mTup, mApp, pVar, atP, subS, setS, okE, Sh.beq, mPut, mIsN, mNotN, isNon, mIsi, mIsB, mNotB, mSl, oSo, oNo, elemsL, elemsR, mCL, mCLL, mCIL, mCI, mFrz, mAug, mBrk, mCnt, mPop, mRevL, iSq, iR1, iR2, iEn, iZp, iRv, ownB, wipeE, mYes, gs0, ss0, gs1, ss1, gs2, ss2, gs3, ss3, gs4, ss4, gs5, ss5, gs6, ss6, gs7, ss7, gs8, ss8, gs9, ss9, gs10, ss10, gs11, ss11, gs12, ss12, gs13, ss13, gs14, ss14, gs15, ss15, gs16, ss16, gs17, ss17, gs18, ss18, gs19, ss19, gs20, ss20, gs21, ss21, gs22, ss22, gs23, ss23, gs24, ss24, gs25, ss25, gs26, ss26, gs27, ss27, gs28, ss28, gs29, ss29, add_ii, sub_ii, mod_ii, div_ii, mul_ii, neg_i, lt_ii, le_ii, gt_ii, ge_ii, eq_ii, ne_ii, len_l, len_t, int_i, int_b, R.sha, ix_t0, ix_t1, ix_t2, ix_t3, eq_ss, ne_ss, eq_bb, ne_bb, c2, c3, hok]) f1
  have c10 : b_law_later_first [some (.s, .list (ns.map noteD)), none, none, none, none, none, none, none, none] = some (.rt (.l .s) (.list (ps.map pieceD))) := by
    unfold b_law_later_first
    simp -implicitDefEqProofs (disch := omega) [mSeq_K, seqK_nx, seqK_rt, seqK_bk, seqK_ct, mIfS_K, ifK_t, ifK_f, mTv, mTr, truD, m2, m1, m3, mVar, mC, mCS, mCall, mCons, mNil, rdS, asB, asI, mRet, mRetN, xOf, mSkip, mExp, mSet, mSetF, shareE, mSetT, store, kill, mAnd_K, andK_t, andK_f, mOr_K, orK_t, orK_f, mNot, mAndV, mOrV, mNotV, mIte, mLst, mTup, mApp, pVar, atP, subS, setS, okE, Sh.beq, mPut, mIsN, mNotN, isNon, mIsi, mIsB, mNotB, mSl, oSo, oNo, elemsL, elemsR, mCL, mCLL, mCIL, mCI, mFrz, mAug, mBrk, mCnt, mPop, mRevL, iSq, iR1, iR2, iEn, iZp, iRv, ownB, wipeE, mYes, gs0, ss0, gs1, ss1, gs2, ss2, gs3, ss3, gs4, ss4, gs5, ss5, gs6, ss6, gs7, ss7, gs8, ss8, gs9, ss9, gs10, ss10, gs11, ss11, gs12, ss12, gs13, ss13, gs14, ss14, gs15, ss15, gs16, ss16, gs17, ss17, gs18, ss18, gs19, ss19, gs20, ss20, gs21, ss21, gs22, ss22, gs23, ss23, gs24, ss24, gs25, ss25, gs26, ss26, gs27, ss27, gs28, ss28, gs29, ss29, add_ii, sub_ii, mod_ii, div_ii, mul_ii, neg_i, lt_ii, le_ii, gt_ii, ge_ii, eq_ii, ne_ii, len_l, len_t, int_i, int_b, R.sha, ix_t0, ix_t1, ix_t2, ix_t3, eq_ss, ne_ss, eq_bb, ne_bb, c1, c9, e1, lf_ps]
  exact runF_rt (n := 9) rfl c10
end K56

set_option maxRecDepth 100000
set_option linter.all false
set_option maxHeartbeats 4000000
namespace K56
open PySem M L2
theorem slt2 (x y : D) (a : List Nat) : gSl ⟨.s, .tuple [x, y], a⟩ (some 2) none = some ⟨.s, .tuple [], []⟩ := rfl
theorem slt3 (x y z : D) (a : List Nat) : gSl ⟨.s, .tuple [x, y, z], a⟩ (some 2) none = some ⟨.s, .tuple [z], []⟩ := rfl
theorem ct (x y : D) (zs : List D) (h : zs.length ≤ 5) (a b : List Nat) : gAdd ⟨.s, .tuple [x, y], a⟩ ⟨.s, .tuple zs, b⟩ = some ⟨.s, .tuple (x :: y :: zs), []⟩ := by
  have h1 : gCatT ⟨.s, .tuple [x, y], a⟩ ⟨.s, .tuple zs, b⟩ = some ⟨.s, .tuple (x :: y :: zs), []⟩ := by
    unfold gCatT
    simp only
    rw [if_pos]
    · rfl
    · rw [sizeLine_val]; simp; omega
  have h8 : ∀ f g : R → R → Option R, g2or f g ⟨.s, .tuple [x, y], a⟩ ⟨.s, .tuple zs, b⟩ = (f ⟨.s, .tuple [x, y], a⟩ ⟨.s, .tuple zs, b⟩).or (g ⟨.s, .tuple [x, y], a⟩ ⟨.s, .tuple zs, b⟩) := fun _ _ => rfl
  unfold gAdd
  rw [h8, h8, h8, h1]
  rfl
theorem ct2 (x y : D) (a b : List Nat) : gAdd ⟨.s, .tuple [x, y], a⟩ ⟨.s, .tuple [], b⟩ = some ⟨.s, .tuple [x, y], []⟩ := ct x y [] (by decide) a b
theorem ct3 (x y z : D) (a b : List Nat) : gAdd ⟨.s, .tuple [x, y], a⟩ ⟨.s, .tuple [z], b⟩ = some ⟨.s, .tuple [x, y, z], []⟩ := ct x y [z] (by simp) a b
theorem ps_f (ps : List Piece) : PyData.list (ps.map pieceD) = psD ps := rfl
theorem kit_ps (ps : List Piece) : kitB (tyN (psD ps)) "list" = some true := by rw [kit_list]; rfl
theorem kit_il (i : Int) : kitB (tyN (.int i)) "list" = some false := by rw [kit_list]
theorem kit_bb (b : Bool) : kitB (tyN (.bool b)) "bool" = some true := by rw [kit_bool]
theorem plainAll_f {α : Type} {f : α → D} (h : ∀ x, (f x).plain = true) : ∀ xs : List α, PyData.plainAll (xs.map f) = true
  | [] => by simp [PyData.plainAll]
  | x :: xs => by rw [List.map_cons, PyData.plainAll, h x, plainAll_f h xs]; rfl
theorem ps_plain (ps : List Piece) : (psD ps).plain = true := by
  unfold psD; rw [PyData.plain]
  exact plainAll_f (fun p => by simp [pieceD, PyData.plain, PyData.plainAll]) ps
theorem ps_depth (ps : List Piece) : (psD ps).depth ≤ 2 := by
  unfold psD; rw [PyData.depth]
  have := depthAll_f (f := pieceD) (n := 1) (fun p => by simp [pieceD, PyData.depth, PyData.depthAll]) ps
  omega
theorem paper_plain (p : Paper) : (paperD p).plain = true := by
  cases p <;> simp [paperD, PyData.plain, PyData.plainAll, ps_plain]
theorem paper_depth (p : Paper) : (paperD p).depth ≤ 10 := by
  cases p with
  | plan ps => have := ps_depth ps; simp [paperD, PyData.depth, PyData.depthAll]; omega
  | plan3 ps => have := ps_depth ps; simp [paperD, PyData.depth, PyData.depthAll]; omega
  | plans ps => have := ps_depth ps; simp [paperD, PyData.depth, PyData.depthAll]; omega
  | _ => simp [paperD, PyData.depth, PyData.depthAll]
theorem notes_ne (ms : List Note) (s t : Sh) (x y : List Nat) : g2S gNe ⟨s, .list (ms.map noteD), x⟩ ⟨t, .list (ms.map noteD), y⟩ = some ⟨.s, .bool false, []⟩ := by
  refine ne_self _ ?_ ?_ s t x y
  · rw [PyData.depth]
    have := depthAll_f (f := noteD) (n := 1) (fun p => by simp [noteD, PyData.depth, PyData.depthAll]) ms
    omega
  · rw [PyData.plain]
    exact plainAll_f (fun p => by simp [noteD, PyData.plain, PyData.plainAll]) ms
def kindP : Paper → Str
  | .plan _ => "plan"
  | _ => "full"
def POk' (p : Paper) : Prop := ∀ ps, p = .plan ps → ps.length ≤ 100000
theorem law_body (ms : List Note) (hg : GoodNs ms) (p : Paper) (hp : POk' p) (K : List Str) (hK : K.length ≤ 10000) (v0 v1 v2 v3 v4 v5 v6 v8 v9 v10 v14 v15 v16 : Option (Sh × D)) :
    ∃ (k : Bool) (w14 w15 : Option (Sh × D)), (k = true ↔ Acc ms p) ∧ l1_law [v0, v1, v2, v3, v4, v5, v6, some (.s, .list (ms.map noteD)), v8, v9, v10, some (.l .s, .list (K.map .str)), some (.s, .list (ms.map noteD)), some (.s, paperD p), v14, v15, v16] =
      some (.nx [v0, v1, v2, v3, v4, v5, v6, some (.s, .list (ms.map noteD)), v8, v9, v10, some (.l .s, .list ((if k then K ++ [kindP p] else K).map .str)), some (.s, .list (ms.map noteD)), some (.s, paperD p), w14, w15, v16]) := by
  have hz : sizeLine = 16777216 := sizeLine_val
  obtain ⟨k, j1, j2⟩ := judge_ok ms hg p hp
  obtain ⟨k', a1, a2⟩ := accepts_ok ms hg p
  have hk : k' = k := by
    rw [Bool.eq_iff_iff, a2, j2]
  subst hk
  have hne := ne_self (paperD p) (Nat.le_trans (paper_depth p) (by decide)) (paper_plain p) .s .s [] []
  have hx : K.length < 16777216 := by omega
  refine ⟨k', some (.s, paperD p), some (.s, .bool k'), a2, ?_⟩
  have no : ∀ q : Prop, ¬ q → (k' = true ↔ q) → k' = false := fun q h1 h2 => by
    cases k' with
    | false => rfl
    | true => exact absurd (h2.mp rfl) h1
  cases p with
  | plan ps =>
    simp only [paperD] at j1 a1 hne
    unfold l1_law
    cases k' <;> simp -implicitDefEqProofs (disch := omega) [mSeq_K, seqK_nx, seqK_rt, seqK_bk, seqK_ct, mIfS_K, ifK_t, ifK_f, mTv, mTr, truD, m2, m1, m3, mVar, mC, mCS, mCall, mCons, mNil, rdS, asB, asI, mRet, mRetN, xOf, mSkip, mExp, mSet, mSetF, shareE, mSetT, store, kill, mAnd_K, andK_t, andK_f, mOr_K, orK_t, orK_f, mNot, mAndV, mOrV, mNotV, mIte, mLst, mTup, mApp, pVar, atP, subS, setS, okE, Sh.beq, mPut, mIsN, mNotN, isNon, mIsi, mIsB, mNotB, mSl, oSo, oNo, mCL, mCLL, mCIL, mCI, mFrz, mAug, mBrk, mCnt, mPop, mRevL, iSq, iR1, iR2, iEn, iZp, iRv, ownB, wipeE, mYes, gs0, ss0, gs1, ss1, gs2, ss2, gs3, ss3, gs4, ss4, gs5, ss5, gs6, ss6, gs7, ss7, gs8, ss8, gs9, ss9, gs10, ss10, gs11, ss11, gs12, ss12, gs13, ss13, gs14, ss14, gs15, ss15, gs16, ss16, gs17, ss17, gs18, ss18, gs19, ss19, gs20, ss20, gs21, ss21, gs22, ss22, gs23, ss23, gs24, ss24, gs25, ss25, gs26, ss26, gs27, ss27, gs28, ss28, gs29, ss29, add_ii, sub_ii, mod_ii, div_ii, mul_ii, neg_i, lt_ii, le_ii, gt_ii, ge_ii, eq_ii, ne_ii, len_l, len_t, int_i, int_b, R.sha, ix_t0, ix_t1, ix_t2, ix_t3, eq_ss, ne_ss, eq_bb, ne_bb, ps_er, ps_f, ps_el, kit_ps, kit_bb, slt2, slt3, ct2, ct3, j1, a1, hne, notes_ne, paperD, kindP, hz, hx]
  | full s t =>
    simp only [paperD] at j1 a1 hne
    unfold l1_law
    cases k' <;> simp -implicitDefEqProofs (disch := omega) [mSeq_K, seqK_nx, seqK_rt, seqK_bk, seqK_ct, mIfS_K, ifK_t, ifK_f, mTv, mTr, truD, m2, m1, m3, mVar, mC, mCS, mCall, mCons, mNil, rdS, asB, asI, mRet, mRetN, xOf, mSkip, mExp, mSet, mSetF, shareE, mSetT, store, kill, mAnd_K, andK_t, andK_f, mOr_K, orK_t, orK_f, mNot, mAndV, mOrV, mNotV, mIte, mLst, mTup, mApp, pVar, atP, subS, setS, okE, Sh.beq, mPut, mIsN, mNotN, isNon, mIsi, mIsB, mNotB, mSl, oSo, oNo, mCL, mCLL, mCIL, mCI, mFrz, mAug, mBrk, mCnt, mPop, mRevL, iSq, iR1, iR2, iEn, iZp, iRv, ownB, wipeE, mYes, gs0, ss0, gs1, ss1, gs2, ss2, gs3, ss3, gs4, ss4, gs5, ss5, gs6, ss6, gs7, ss7, gs8, ss8, gs9, ss9, gs10, ss10, gs11, ss11, gs12, ss12, gs13, ss13, gs14, ss14, gs15, ss15, gs16, ss16, gs17, ss17, gs18, ss18, gs19, ss19, gs20, ss20, gs21, ss21, gs22, ss22, gs23, ss23, gs24, ss24, gs25, ss25, gs26, ss26, gs27, ss27, gs28, ss28, gs29, ss29, add_ii, sub_ii, mod_ii, div_ii, mul_ii, neg_i, lt_ii, le_ii, gt_ii, ge_ii, eq_ii, ne_ii, len_l, len_t, int_i, int_b, R.sha, ix_t0, ix_t1, ix_t2, ix_t3, eq_ss, ne_ss, eq_bb, ne_bb, ps_er, ps_f, ps_el, kit_il, kit_bb, slt2, slt3, ct2, ct3, j1, a1, hne, notes_ne, paperD, kindP, hz, hx]
  | full1 =>
    have := no _ (fun h => h) a2
    subst this
    simp only [paperD] at j1 a1 hne
    unfold l1_law
    simp -implicitDefEqProofs (disch := omega) [mSeq_K, seqK_nx, seqK_rt, seqK_bk, seqK_ct, mIfS_K, ifK_t, ifK_f, mTv, mTr, truD, m2, m1, m3, mVar, mC, mCS, mCall, mCons, mNil, rdS, asB, asI, mRet, mRetN, xOf, mSkip, mExp, mSet, mSetF, shareE, mSetT, store, kill, mAnd_K, andK_t, andK_f, mOr_K, orK_t, orK_f, mNot, mAndV, mOrV, mNotV, mIte, mLst, mTup, mApp, pVar, atP, subS, setS, okE, Sh.beq, mPut, mIsN, mNotN, isNon, mIsi, mIsB, mNotB, mSl, oSo, oNo, mCL, mCLL, mCIL, mCI, mFrz, mAug, mBrk, mCnt, mPop, mRevL, iSq, iR1, iR2, iEn, iZp, iRv, ownB, wipeE, mYes, gs0, ss0, gs1, ss1, gs2, ss2, gs3, ss3, gs4, ss4, gs5, ss5, gs6, ss6, gs7, ss7, gs8, ss8, gs9, ss9, gs10, ss10, gs11, ss11, gs12, ss12, gs13, ss13, gs14, ss14, gs15, ss15, gs16, ss16, gs17, ss17, gs18, ss18, gs19, ss19, gs20, ss20, gs21, ss21, gs22, ss22, gs23, ss23, gs24, ss24, gs25, ss25, gs26, ss26, gs27, ss27, gs28, ss28, gs29, ss29, add_ii, sub_ii, mod_ii, div_ii, mul_ii, neg_i, lt_ii, le_ii, gt_ii, ge_ii, eq_ii, ne_ii, len_l, len_t, int_i, int_b, R.sha, ix_t0, ix_t1, ix_t2, ix_t3, eq_ss, ne_ss, eq_bb, ne_bb, ps_er, ps_f, ps_el, kit_il, kit_bb, slt2, slt3, ct2, ct3, j1, a1, hne, notes_ne, paperD, kindP, hz, hx]
  | plan3 ps =>
    have := no _ (fun h => h) a2
    subst this
    simp only [paperD] at j1 a1 hne
    unfold l1_law
    simp -implicitDefEqProofs (disch := omega) [mSeq_K, seqK_nx, seqK_rt, seqK_bk, seqK_ct, mIfS_K, ifK_t, ifK_f, mTv, mTr, truD, m2, m1, m3, mVar, mC, mCS, mCall, mCons, mNil, rdS, asB, asI, mRet, mRetN, xOf, mSkip, mExp, mSet, mSetF, shareE, mSetT, store, kill, mAnd_K, andK_t, andK_f, mOr_K, orK_t, orK_f, mNot, mAndV, mOrV, mNotV, mIte, mLst, mTup, mApp, pVar, atP, subS, setS, okE, Sh.beq, mPut, mIsN, mNotN, isNon, mIsi, mIsB, mNotB, mSl, oSo, oNo, mCL, mCLL, mCIL, mCI, mFrz, mAug, mBrk, mCnt, mPop, mRevL, iSq, iR1, iR2, iEn, iZp, iRv, ownB, wipeE, mYes, gs0, ss0, gs1, ss1, gs2, ss2, gs3, ss3, gs4, ss4, gs5, ss5, gs6, ss6, gs7, ss7, gs8, ss8, gs9, ss9, gs10, ss10, gs11, ss11, gs12, ss12, gs13, ss13, gs14, ss14, gs15, ss15, gs16, ss16, gs17, ss17, gs18, ss18, gs19, ss19, gs20, ss20, gs21, ss21, gs22, ss22, gs23, ss23, gs24, ss24, gs25, ss25, gs26, ss26, gs27, ss27, gs28, ss28, gs29, ss29, add_ii, sub_ii, mod_ii, div_ii, mul_ii, neg_i, lt_ii, le_ii, gt_ii, ge_ii, eq_ii, ne_ii, len_l, len_t, int_i, int_b, R.sha, ix_t0, ix_t1, ix_t2, ix_t3, eq_ss, ne_ss, eq_bb, ne_bb, ps_er, ps_f, ps_el, kit_ps, kit_bb, slt2, slt3, ct2, ct3, j1, a1, hne, notes_ne, paperD, kindP, hz, hx]
  | plans ps =>
    have := no _ (fun h => h) a2
    subst this
    simp only [paperD] at j1 a1 hne
    unfold l1_law
    simp -implicitDefEqProofs (disch := omega) [mSeq_K, seqK_nx, seqK_rt, seqK_bk, seqK_ct, mIfS_K, ifK_t, ifK_f, mTv, mTr, truD, m2, m1, m3, mVar, mC, mCS, mCall, mCons, mNil, rdS, asB, asI, mRet, mRetN, xOf, mSkip, mExp, mSet, mSetF, shareE, mSetT, store, kill, mAnd_K, andK_t, andK_f, mOr_K, orK_t, orK_f, mNot, mAndV, mOrV, mNotV, mIte, mLst, mTup, mApp, pVar, atP, subS, setS, okE, Sh.beq, mPut, mIsN, mNotN, isNon, mIsi, mIsB, mNotB, mSl, oSo, oNo, mCL, mCLL, mCIL, mCI, mFrz, mAug, mBrk, mCnt, mPop, mRevL, iSq, iR1, iR2, iEn, iZp, iRv, ownB, wipeE, mYes, gs0, ss0, gs1, ss1, gs2, ss2, gs3, ss3, gs4, ss4, gs5, ss5, gs6, ss6, gs7, ss7, gs8, ss8, gs9, ss9, gs10, ss10, gs11, ss11, gs12, ss12, gs13, ss13, gs14, ss14, gs15, ss15, gs16, ss16, gs17, ss17, gs18, ss18, gs19, ss19, gs20, ss20, gs21, ss21, gs22, ss22, gs23, ss23, gs24, ss24, gs25, ss25, gs26, ss26, gs27, ss27, gs28, ss28, gs29, ss29, add_ii, sub_ii, mod_ii, div_ii, mul_ii, neg_i, lt_ii, le_ii, gt_ii, ge_ii, eq_ii, ne_ii, len_l, len_t, int_i, int_b, R.sha, ix_t0, ix_t1, ix_t2, ix_t3, eq_ss, ne_ss, eq_bb, ne_bb, ps_er, ps_f, ps_el, kit_ps, kit_bb, slt2, slt3, ct2, ct3, j1, a1, hne, notes_ne, paperD, kindP, hz, hx]
  | emp =>
    have := no _ (fun h => h) a2
    subst this
    simp only [paperD] at j1 a1 hne
    unfold l1_law
    simp -implicitDefEqProofs (disch := omega) [mSeq_K, seqK_nx, seqK_rt, seqK_bk, seqK_ct, mIfS_K, ifK_t, ifK_f, mTv, mTr, truD, m2, m1, m3, mVar, mC, mCS, mCall, mCons, mNil, rdS, asB, asI, mRet, mRetN, xOf, mSkip, mExp, mSet, mSetF, shareE, mSetT, store, kill, mAnd_K, andK_t, andK_f, mOr_K, orK_t, orK_f, mNot, mAndV, mOrV, mNotV, mIte, mLst, mTup, mApp, pVar, atP, subS, setS, okE, Sh.beq, mPut, mIsN, mNotN, isNon, mIsi, mIsB, mNotB, mSl, oSo, oNo, mCL, mCLL, mCIL, mCI, mFrz, mAug, mBrk, mCnt, mPop, mRevL, iSq, iR1, iR2, iEn, iZp, iRv, ownB, wipeE, mYes, gs0, ss0, gs1, ss1, gs2, ss2, gs3, ss3, gs4, ss4, gs5, ss5, gs6, ss6, gs7, ss7, gs8, ss8, gs9, ss9, gs10, ss10, gs11, ss11, gs12, ss12, gs13, ss13, gs14, ss14, gs15, ss15, gs16, ss16, gs17, ss17, gs18, ss18, gs19, ss19, gs20, ss20, gs21, ss21, gs22, ss22, gs23, ss23, gs24, ss24, gs25, ss25, gs26, ss26, gs27, ss27, gs28, ss28, gs29, ss29, add_ii, sub_ii, mod_ii, div_ii, mul_ii, neg_i, lt_ii, le_ii, gt_ii, ge_ii, eq_ii, ne_ii, len_l, len_t, int_i, int_b, R.sha, ix_t0, ix_t1, ix_t2, ix_t3, eq_ss, ne_ss, eq_bb, ne_bb, ps_er, ps_f, ps_el, kit_ps, kit_bb, slt2, slt3, ct2, ct3, j1, a1, hne, notes_ne, paperD, kindP, hz, hx]
  | plan0 =>
    have := no _ (fun h => h) a2
    subst this
    simp only [paperD] at j1 a1 hne
    unfold l1_law
    simp -implicitDefEqProofs (disch := omega) [mSeq_K, seqK_nx, seqK_rt, seqK_bk, seqK_ct, mIfS_K, ifK_t, ifK_f, mTv, mTr, truD, m2, m1, m3, mVar, mC, mCS, mCall, mCons, mNil, rdS, asB, asI, mRet, mRetN, xOf, mSkip, mExp, mSet, mSetF, shareE, mSetT, store, kill, mAnd_K, andK_t, andK_f, mOr_K, orK_t, orK_f, mNot, mAndV, mOrV, mNotV, mIte, mLst, mTup, mApp, pVar, atP, subS, setS, okE, Sh.beq, mPut, mIsN, mNotN, isNon, mIsi, mIsB, mNotB, mSl, oSo, oNo, mCL, mCLL, mCIL, mCI, mFrz, mAug, mBrk, mCnt, mPop, mRevL, iSq, iR1, iR2, iEn, iZp, iRv, ownB, wipeE, mYes, gs0, ss0, gs1, ss1, gs2, ss2, gs3, ss3, gs4, ss4, gs5, ss5, gs6, ss6, gs7, ss7, gs8, ss8, gs9, ss9, gs10, ss10, gs11, ss11, gs12, ss12, gs13, ss13, gs14, ss14, gs15, ss15, gs16, ss16, gs17, ss17, gs18, ss18, gs19, ss19, gs20, ss20, gs21, ss21, gs22, ss22, gs23, ss23, gs24, ss24, gs25, ss25, gs26, ss26, gs27, ss27, gs28, ss28, gs29, ss29, add_ii, sub_ii, mod_ii, div_ii, mul_ii, neg_i, lt_ii, le_ii, gt_ii, ge_ii, eq_ii, ne_ii, len_l, len_t, int_i, int_b, R.sha, ix_t0, ix_t1, ix_t2, ix_t3, eq_ss, ne_ss, eq_bb, ne_bb, ps_er, ps_f, ps_el, kit_ps, kit_bb, slt2, slt3, ct2, ct3, j1, a1, hne, notes_ne, paperD, kindP, hz, hx]
  | fuller =>
    have := no _ (fun h => h) a2
    subst this
    simp only [paperD] at j1 a1 hne
    unfold l1_law
    simp -implicitDefEqProofs (disch := omega) [mSeq_K, seqK_nx, seqK_rt, seqK_bk, seqK_ct, mIfS_K, ifK_t, ifK_f, mTv, mTr, truD, m2, m1, m3, mVar, mC, mCS, mCall, mCons, mNil, rdS, asB, asI, mRet, mRetN, xOf, mSkip, mExp, mSet, mSetF, shareE, mSetT, store, kill, mAnd_K, andK_t, andK_f, mOr_K, orK_t, orK_f, mNot, mAndV, mOrV, mNotV, mIte, mLst, mTup, mApp, pVar, atP, subS, setS, okE, Sh.beq, mPut, mIsN, mNotN, isNon, mIsi, mIsB, mNotB, mSl, oSo, oNo, mCL, mCLL, mCIL, mCI, mFrz, mAug, mBrk, mCnt, mPop, mRevL, iSq, iR1, iR2, iEn, iZp, iRv, ownB, wipeE, mYes, gs0, ss0, gs1, ss1, gs2, ss2, gs3, ss3, gs4, ss4, gs5, ss5, gs6, ss6, gs7, ss7, gs8, ss8, gs9, ss9, gs10, ss10, gs11, ss11, gs12, ss12, gs13, ss13, gs14, ss14, gs15, ss15, gs16, ss16, gs17, ss17, gs18, ss18, gs19, ss19, gs20, ss20, gs21, ss21, gs22, ss22, gs23, ss23, gs24, ss24, gs25, ss25, gs26, ss26, gs27, ss27, gs28, ss28, gs29, ss29, add_ii, sub_ii, mod_ii, div_ii, mul_ii, neg_i, lt_ii, le_ii, gt_ii, ge_ii, eq_ii, ne_ii, len_l, len_t, int_i, int_b, R.sha, ix_t0, ix_t1, ix_t2, ix_t3, eq_ss, ne_ss, eq_bb, ne_bb, ps_er, ps_f, ps_el, kit_il, kit_bb, slt2, slt3, ct2, ct3, j1, a1, hne, notes_ne, paperD, kindP, hz, hx]
end K56

set_option maxRecDepth 100000
set_option linter.all false
set_option maxHeartbeats 4000000
namespace K56
open PySem M L2
abbrev envW (v0 v1 v2 v3 v4 v5 v6 : Option (Sh × D)) (ms : List Note) (v8 v9 v10 : Option (Sh × D)) (K : List Str) (v13 v14 v15 v16 : Option (Sh × D)) : M.Env := [v0, v1, v2, v3, v4, v5, v6, some (.s, .list (ms.map noteD)), v8, v9, v10, some (.l .s, .list (K.map .str)), some (.s, .list (ms.map noteD)), v13, v14, v15, v16]
theorem law_in (ms : List Note) (hg : GoodNs ms) (κ : Str) (hκ : ∀ p, Acc ms p → kindP p = κ) (v0 v1 v2 v3 v4 v5 v6 v8 v9 v10 v16 : Option (Sh × D)) (Q : List Paper) : ∀ (K : List Str) (v13 v14 v15 : Option (Sh × D)), (∀ p ∈ Q, POk' p) → K.length + Q.length ≤ 10000 → (∀ s ∈ K, s = κ) →
    ∃ (K' : List Str) (w13 w14 w15 : Option (Sh × D)), forL (fun d e => (tgN 13 e d).bind l1_law) (Q.map paperD) (envW v0 v1 v2 v3 v4 v5 v6 ms v8 v9 v10 K v13 v14 v15 v16) = some (.nx (envW v0 v1 v2 v3 v4 v5 v6 ms v8 v9 v10 K' w13 w14 w15 v16)) ∧
      (∀ s ∈ K', s = κ) ∧ ((K ≠ [] ∨ ∃ p ∈ Q, Acc ms p) → K' ≠ []) ∧ K'.length ≤ 10000 := by
  induction Q with
  | nil =>
    intro K v13 v14 v15 _ h2 h3
    refine ⟨K, v13, v14, v15, rfl, h3, fun h => ?_, by simpa using h2⟩
    rcases h with h | ⟨p, hp, _⟩
    · exact h
    · cases hp
  | cons p Q ih =>
    intro K v13 v14 v15 h1 h2 h3
    rw [List.length_cons] at h2
    obtain ⟨k, w14, w15, k1, e1⟩ := law_body ms hg p (h1 p List.mem_cons_self) K (by omega) v0 v1 v2 v3 v4 v5 v6 v8 v9 v10 v14 v15 v16
    have hb := (tgN_bind (f := l1_law) (env := envW v0 v1 v2 v3 v4 v5 v6 ms v8 v9 v10 K v13 v14 v15 v16) (i := 13) (d := paperD p) (by decide : 13 < 17)).trans e1
    have hl : (if k then K ++ [kindP p] else K).length ≤ K.length + 1 := by
      split
      · rw [List.length_append, List.length_singleton]; omega
      · omega
    obtain ⟨K', u13, u14, u15, e2, e3, e4, e5⟩ := ih (if k then K ++ [kindP p] else K) (some (.s, paperD p)) w14 w15 (fun q hq => h1 q (List.mem_cons_of_mem _ hq)) (by omega) (by
      intro s hs
      split at hs
      · rename_i hk
        rcases List.mem_append.mp hs with hs | hs
        · exact h3 s hs
        · rw [List.mem_singleton] at hs
          subst hs
          exact hκ p (k1.mp hk)
      · exact h3 s hs)
    refine ⟨K', u13, u14, u15, ?_, e3, fun h => e4 ?_, e5⟩
    · exact (forL_nx (b := fun d e => (tgN 13 e d).bind l1_law) hb).trans e2
    · rcases h with h | ⟨q, hq, ha⟩
      · left; split
        · simp
        · exact h
      · rcases List.mem_cons.mp hq with rfl | hq
        · left; rw [if_pos (k1.mpr ha)]; simp
        · right; exact ⟨q, hq, ha⟩
theorem kind_eq {ms : List Note} (hg : GoodNs ms) {v : Paper} (hv : Acc ms v) : ∀ p, Acc ms p → kindP p = kindP v := by
  intro p hp
  cases v <;> cases p <;> first
    | rfl
    | exact absurd hp (fun h => h)
    | exact absurd hv (fun h => h)
    | exact absurd (never_both hg hp hv) (fun h => h)
    | exact absurd (never_both hg hv hp) (fun h => h)
theorem law_2 (ms : List Note) (hg : GoodNs ms) (Q : List Paper) (hQ : ∀ p ∈ Q, POk' p) (hl : Q.length ≤ 9000) (v0 v1 v2 v3 v4 v5 v8 v9 v10 v11 v12 v13 v14 v15 v16 : Option (Sh × D)) :
    ∃ (w11 w12 w13 w14 w15 : Option (Sh × D)), l2_law [v0, v1, v2, v3, v4, v5, some (.l .s, .list (Q.map paperD)), some (.s, .list (ms.map noteD)), v8, v9, v10, v11, v12, v13, v14, v15, v16] =
      some (.nx [v0, v1, v2, v3, v4, v5, some (.l .s, .list (Q.map paperD)), some (.s, .list (ms.map noteD)), v8, v9, v10, w11, w12, w13, w14, w15, v16]) := by
  obtain ⟨v, e1, e2, e3⟩ := verdict_ok ms hg
  have hvp : POk' v := e2
  obtain ⟨K', w13, w14, w15, f1, f2, f3, f4⟩ := law_in ms hg (kindP v) (kind_eq hg e3) v0 v1 v2 v3 v4 v5 (some (.l .s, .list (Q.map paperD))) v8 v9 v10 v16 (Q ++ [v]) [] v13 v14 v15 (by
    intro p hp
    rcases List.mem_append.mp hp with hp | hp
    · exact hQ p hp
    · rw [List.mem_singleton] at hp
      subst hp; exact hvp) (by simp; omega) (fun s hs => by cases hs)
  have f5 := f3 (.inr ⟨v, by simp, e3⟩)
  cases K' with
  | nil => exact absurd rfl f5
  | cons κ K =>
    have hκ := f2 κ List.mem_cons_self
    subst hκ
    refine ⟨some (.l .s, .list ((kindP v :: K).map .str)), some (.s, .list (ms.map noteD)), w13, w14, w15, ?_⟩
    have hlen : (Q.map paperD).length + 1 ≤ 16777216 := by rw [List.length_map]; omega
    have c0 := mFor_of (mi := iSq (m2 gAdd (mVar 6) (mLst (mCons (mCall (m_law_verdict) (mCons (mVar 7) (mNil))) (mNil))))) (tg := tgN 13) (body := l1_law) (env := envW v0 v1 v2 v3 v4 v5 (some (.l .s, .list (Q.map paperD))) ms v8 v9 v10 [] v13 v14 v15 v16) (ds := (Q ++ [v]).map paperD) (by
      rw [List.length_map] at hlen
      simp -implicitDefEqProofs (disch := omega) [mSeq_K, seqK_nx, seqK_rt, seqK_bk, seqK_ct, mIfS_K, ifK_t, ifK_f, mTv, mTr, truD, m2, m1, m3, mVar, mC, mCS, mCall, mCons, mNil, rdS, asB, asI, mRet, mRetN, xOf, mSkip, mExp, mSet, mSetF, shareE, mSetT, store, kill, mAnd_K, andK_t, andK_f, mOr_K, orK_t, orK_f, mNot, mAndV, mOrV, mNotV, mIte, mLst, mTup, mApp, pVar, atP, subS, setS, okE, Sh.beq, mPut, mIsN, mNotN, isNon, mIsi, mIsB, mNotB, mSl, oSo, oNo, mCL, mCLL, mCIL, mCI, mFrz, mAug, mBrk, mCnt, mPop, mRevL, iSq, iR1, iR2, iEn, iZp, iRv, ownB, wipeE, mYes, gs0, ss0, gs1, ss1, gs2, ss2, gs3, ss3, gs4, ss4, gs5, ss5, gs6, ss6, gs7, ss7, gs8, ss8, gs9, ss9, gs10, ss10, gs11, ss11, gs12, ss12, gs13, ss13, gs14, ss14, gs15, ss15, gs16, ss16, gs17, ss17, gs18, ss18, gs19, ss19, gs20, ss20, gs21, ss21, gs22, ss22, gs23, ss23, gs24, ss24, gs25, ss25, gs26, ss26, gs27, ss27, gs28, ss28, gs29, ss29, add_ii, sub_ii, mod_ii, div_ii, mul_ii, neg_i, lt_ii, le_ii, gt_ii, ge_ii, eq_ii, ne_ii, len_l, len_t, int_i, int_b, R.sha, ix_t0, ix_t1, ix_t2, ix_t3, eq_ss, ne_ss, eq_bb, ne_bb, envW, e1, cat_if_ll, hlen]) f1
    simp only [envW, List.map_nil] at c0
    have c1 : mLc (.s) (iSq (mVar 11)) [16] (tgN 16) (mTv (m2 (g2S gNe) (mVar 16) (m2 gIx (mVar 11) (mC (.int 0))))) (mVar 16) [v0, v1, v2, v3, v4, v5, some (.l .s, .list (Q.map paperD)), some (.s, .list (ms.map noteD)), v8, v9, v10, some (.l .s, .list ((kindP v :: K).map .str)), some (.s, .list (ms.map noteD)), w13, w14, w15, v16]
        = some ⟨.l .s, .list (((kindP v :: K).filter fun s => decide (s ≠ kindP v)).map .str), []⟩ := by
      refine mLc_f (b := true) (PyData.str) (kindP v :: K) _ _ ?_ (by omega) ?_
      · simp -implicitDefEqProofs (disch := omega) [mSeq_K, seqK_nx, seqK_rt, seqK_bk, seqK_ct, mIfS_K, ifK_t, ifK_f, mTv, mTr, truD, m2, m1, m3, mVar, mC, mCS, mCall, mCons, mNil, rdS, asB, asI, mRet, mRetN, xOf, mSkip, mExp, mSet, mSetF, shareE, mSetT, store, kill, mAnd_K, andK_t, andK_f, mOr_K, orK_t, orK_f, mNot, mAndV, mOrV, mNotV, mIte, mLst, mTup, mApp, pVar, atP, subS, setS, okE, Sh.beq, mPut, mIsN, mNotN, isNon, mIsi, mIsB, mNotB, mSl, oSo, oNo, mCL, mCLL, mCIL, mCI, mFrz, mAug, mBrk, mCnt, mPop, mRevL, iSq, iR1, iR2, iEn, iZp, iRv, ownB, wipeE, mYes, gs0, ss0, gs1, ss1, gs2, ss2, gs3, ss3, gs4, ss4, gs5, ss5, gs6, ss6, gs7, ss7, gs8, ss8, gs9, ss9, gs10, ss10, gs11, ss11, gs12, ss12, gs13, ss13, gs14, ss14, gs15, ss15, gs16, ss16, gs17, ss17, gs18, ss18, gs19, ss19, gs20, ss20, gs21, ss21, gs22, ss22, gs23, ss23, gs24, ss24, gs25, ss25, gs26, ss26, gs27, ss27, gs28, ss28, gs29, ss29, add_ii, sub_ii, mod_ii, div_ii, mul_ii, neg_i, lt_ii, le_ii, gt_ii, ge_ii, eq_ii, ne_ii, len_l, len_t, int_i, int_b, R.sha, ix_t0, ix_t1, ix_t2, ix_t3, eq_ss, ne_ss, eq_bb, ne_bb, ]
      · intro s hs
        refine ⟨_, rfl, ?_, fun _ => ⟨.s, ?_⟩⟩
        · simp -implicitDefEqProofs (disch := omega) [mSeq_K, seqK_nx, seqK_rt, seqK_bk, seqK_ct, mIfS_K, ifK_t, ifK_f, mTv, mTr, truD, m2, m1, m3, mVar, mC, mCS, mCall, mCons, mNil, rdS, asB, asI, mRet, mRetN, xOf, mSkip, mExp, mSet, mSetF, shareE, mSetT, store, kill, mAnd_K, andK_t, andK_f, mOr_K, orK_t, orK_f, mNot, mAndV, mOrV, mNotV, mIte, mLst, mTup, mApp, pVar, atP, subS, setS, okE, Sh.beq, mPut, mIsN, mNotN, isNon, mIsi, mIsB, mNotB, mSl, oSo, oNo, mCL, mCLL, mCIL, mCI, mFrz, mAug, mBrk, mCnt, mPop, mRevL, iSq, iR1, iR2, iEn, iZp, iRv, ownB, wipeE, mYes, gs0, ss0, gs1, ss1, gs2, ss2, gs3, ss3, gs4, ss4, gs5, ss5, gs6, ss6, gs7, ss7, gs8, ss8, gs9, ss9, gs10, ss10, gs11, ss11, gs12, ss12, gs13, ss13, gs14, ss14, gs15, ss15, gs16, ss16, gs17, ss17, gs18, ss18, gs19, ss19, gs20, ss20, gs21, ss21, gs22, ss22, gs23, ss23, gs24, ss24, gs25, ss25, gs26, ss26, gs27, ss27, gs28, ss28, gs29, ss29, add_ii, sub_ii, mod_ii, div_ii, mul_ii, neg_i, lt_ii, le_ii, gt_ii, ge_ii, eq_ii, ne_ii, len_l, len_t, int_i, int_b, R.sha, ix_t0, ix_t1, ix_t2, ix_t3, eq_ss, ne_ss, eq_bb, ne_bb, ix_l0L]
        · simp -implicitDefEqProofs (disch := omega) [mSeq_K, seqK_nx, seqK_rt, seqK_bk, seqK_ct, mIfS_K, ifK_t, ifK_f, mTv, mTr, truD, m2, m1, m3, mVar, mC, mCS, mCall, mCons, mNil, rdS, asB, asI, mRet, mRetN, xOf, mSkip, mExp, mSet, mSetF, shareE, mSetT, store, kill, mAnd_K, andK_t, andK_f, mOr_K, orK_t, orK_f, mNot, mAndV, mOrV, mNotV, mIte, mLst, mTup, mApp, pVar, atP, subS, setS, okE, Sh.beq, mPut, mIsN, mNotN, isNon, mIsi, mIsB, mNotB, mSl, oSo, oNo, mCL, mCLL, mCIL, mCI, mFrz, mAug, mBrk, mCnt, mPop, mRevL, iSq, iR1, iR2, iEn, iZp, iRv, ownB, wipeE, mYes, gs0, ss0, gs1, ss1, gs2, ss2, gs3, ss3, gs4, ss4, gs5, ss5, gs6, ss6, gs7, ss7, gs8, ss8, gs9, ss9, gs10, ss10, gs11, ss11, gs12, ss12, gs13, ss13, gs14, ss14, gs15, ss15, gs16, ss16, gs17, ss17, gs18, ss18, gs19, ss19, gs20, ss20, gs21, ss21, gs22, ss22, gs23, ss23, gs24, ss24, gs25, ss25, gs26, ss26, gs27, ss27, gs28, ss28, gs29, ss29, add_ii, sub_ii, mod_ii, div_ii, mul_ii, neg_i, lt_ii, le_ii, gt_ii, ge_ii, eq_ii, ne_ii, len_l, len_t, int_i, int_b, R.sha, ix_t0, ix_t1, ix_t2, ix_t3, eq_ss, ne_ss, eq_bb, ne_bb, ]
    have c2 : (kindP v :: K).filter (fun s => decide (s ≠ kindP v)) = [] := by
      rw [List.filter_eq_nil_iff]
      intro s hs
      have := f2 s hs
      simp [this]
    rw [c2] at c1
    simp only [List.map_cons, List.map_nil] at c0 c1
    have hk0 : ((K.length : Int) + 1 = 0) = False := eq_false (by omega)
    unfold l2_law
    simp -implicitDefEqProofs (disch := omega) [mSeq_K, seqK_nx, seqK_rt, seqK_bk, seqK_ct, mIfS_K, ifK_t, ifK_f, mTv, mTr, truD, m2, m1, m3, mVar, mC, mCS, mCall, mCons, mNil, rdS, asB, asI, mRet, mRetN, xOf, mSkip, mExp, mSet, mSetF, shareE, mSetT, store, kill, mAnd_K, andK_t, andK_f, mOr_K, orK_t, orK_f, mNot, mAndV, mOrV, mNotV, mIte, mLst, mTup, mApp, pVar, atP, subS, setS, okE, Sh.beq, mPut, mIsN, mNotN, isNon, mIsi, mIsB, mNotB, mSl, oSo, oNo, mCL, mCLL, mCIL, mCI, mFrz, mAug, mBrk, mCnt, mPop, mRevL, iSq, iR1, iR2, iEn, iZp, iRv, ownB, wipeE, mYes, gs0, ss0, gs1, ss1, gs2, ss2, gs3, ss3, gs4, ss4, gs5, ss5, gs6, ss6, gs7, ss7, gs8, ss8, gs9, ss9, gs10, ss10, gs11, ss11, gs12, ss12, gs13, ss13, gs14, ss14, gs15, ss15, gs16, ss16, gs17, ss17, gs18, ss18, gs19, ss19, gs20, ss20, gs21, ss21, gs22, ss22, gs23, ss23, gs24, ss24, gs25, ss25, gs26, ss26, gs27, ss27, gs28, ss28, gs29, ss29, add_ii, sub_ii, mod_ii, div_ii, mul_ii, neg_i, lt_ii, le_ii, gt_ii, ge_ii, eq_ii, ne_ii, len_l, len_t, int_i, int_b, R.sha, ix_t0, ix_t1, ix_t2, ix_t3, eq_ss, ne_ss, eq_bb, ne_bb, elemsR, c0, c1, hk0]
theorem law_4 (L : List (List Piece)) : ∀ (Q : List Paper) (v0 v1 v2 v3 v4 v5 v7 v8 v9 v10 v11 v12 v13 v14 v15 v16 : Option (Sh × D)), Q.length + L.length ≤ 9000 → (∀ p ∈ Q, POk' p) → (∀ q ∈ L, q.length ≤ 3000) →
    ∃ (Q' : List Paper) (w8 : Option (Sh × D)), forL (fun d e => (tgN 8 e d).bind l4_law) (L.map psD) [v0, v1, v2, v3, v4, v5, some (.l .s, .list (Q.map paperD)), v7, v8, v9, v10, v11, v12, v13, v14, v15, v16] =
      some (.nx [v0, v1, v2, v3, v4, v5, some (.l .s, .list (Q'.map paperD)), v7, w8, v9, v10, v11, v12, v13, v14, v15, v16]) ∧ (∀ p ∈ Q', POk' p) ∧ Q'.length = Q.length + L.length := by
  induction L with
  | nil => intro Q v0 v1 v2 v3 v4 v5 v7 v8 v9 v10 v11 v12 v13 v14 v15 v16 _ h2 _; exact ⟨Q, v8, rfl, h2, rfl⟩
  | cons q L ih =>
    intro Q v0 v1 v2 v3 v4 v5 v7 v8 v9 v10 v11 v12 v13 v14 v15 v16 h1 h2 h3
    rw [List.length_cons] at h1
    have hz : sizeLine = 16777216 := sizeLine_val
    have hx : Q.length < 16777216 := by omega
    have e1 : l4_law [v0, v1, v2, v3, v4, v5, some (.l .s, .list (Q.map paperD)), v7, some (.s, psD q), v9, v10, v11, v12, v13, v14, v15, v16] = some (.nx [v0, v1, v2, v3, v4, v5, some (.l .s, .list ((Q ++ [Paper.plan q]).map paperD)), v7, some (.s, psD q), v9, v10, v11, v12, v13, v14, v15, v16]) := by
      unfold l4_law
      simp -implicitDefEqProofs (disch := omega) [mSeq_K, seqK_nx, seqK_rt, seqK_bk, seqK_ct, mIfS_K, ifK_t, ifK_f, mTv, mTr, truD, m2, m1, m3, mVar, mC, mCS, mCall, mCons, mNil, rdS, asB, asI, mRet, mRetN, xOf, mSkip, mExp, mSet, mSetF, shareE, mSetT, store, kill, mAnd_K, andK_t, andK_f, mOr_K, orK_t, orK_f, mNot, mAndV, mOrV, mNotV, mIte, mLst, mTup, mApp, pVar, atP, subS, setS, okE, Sh.beq, mPut, mIsN, mNotN, isNon, mIsi, mIsB, mNotB, mSl, oSo, oNo, mCL, mCLL, mCIL, mCI, mFrz, mAug, mBrk, mCnt, mPop, mRevL, iSq, iR1, iR2, iEn, iZp, iRv, ownB, wipeE, mYes, gs0, ss0, gs1, ss1, gs2, ss2, gs3, ss3, gs4, ss4, gs5, ss5, gs6, ss6, gs7, ss7, gs8, ss8, gs9, ss9, gs10, ss10, gs11, ss11, gs12, ss12, gs13, ss13, gs14, ss14, gs15, ss15, gs16, ss16, gs17, ss17, gs18, ss18, gs19, ss19, gs20, ss20, gs21, ss21, gs22, ss22, gs23, ss23, gs24, ss24, gs25, ss25, gs26, ss26, gs27, ss27, gs28, ss28, gs29, ss29, add_ii, sub_ii, mod_ii, div_ii, mul_ii, neg_i, lt_ii, le_ii, gt_ii, ge_ii, eq_ii, ne_ii, len_l, len_t, int_i, int_b, R.sha, ix_t0, ix_t1, ix_t2, ix_t3, eq_ss, ne_ss, eq_bb, ne_bb, hz, hx, paperD]
    have hb := (tgN_bind (f := l4_law) (env := [v0, v1, v2, v3, v4, v5, some (.l .s, .list (Q.map paperD)), v7, v8, v9, v10, v11, v12, v13, v14, v15, v16]) (i := 8) (d := psD q) (by decide : 8 < 17)).trans e1
    obtain ⟨Q', w8, e2, e3, e4⟩ := ih (Q ++ [Paper.plan q]) v0 v1 v2 v3 v4 v5 v7 (some (.s, psD q)) v9 v10 v11 v12 v13 v14 v15 v16 (by rw [List.length_append, List.length_singleton]; omega) (by
      intro p hp
      rcases List.mem_append.mp hp with hp | hp
      · exact h2 p hp
      · rw [List.mem_singleton] at hp
        subst hp
        intro ps e; cases e
        have := h3 q List.mem_cons_self
        omega) (fun z hz => h3 z (List.mem_cons_of_mem _ hz))
    rw [List.length_append, List.length_singleton] at e4
    exact ⟨Q', w8, (forL_nx (b := fun d e => (tgN 8 e d).bind l4_law) hb).trans e2, e3, by rw [e4, List.length_cons]; omega⟩
theorem law_3 (M : List (Int × Int)) : ∀ (Q : List Paper) (v0 v1 v2 v3 v4 v5 v7 v8 v9 v10 v11 v12 v13 v14 v15 v16 : Option (Sh × D)), Q.length + M.length ≤ 9000 → (∀ p ∈ Q, POk' p) →
    ∃ (Q' : List Paper) (w9 w10 : Option (Sh × D)), forL (fun d e => (tgT [9, 10] e d).bind l3_law) (M.map pairD) [v0, v1, v2, v3, v4, v5, some (.l .s, .list (Q.map paperD)), v7, v8, v9, v10, v11, v12, v13, v14, v15, v16] =
      some (.nx [v0, v1, v2, v3, v4, v5, some (.l .s, .list (Q'.map paperD)), v7, v8, w9, w10, v11, v12, v13, v14, v15, v16]) ∧ (∀ p ∈ Q', POk' p) ∧ Q'.length = Q.length + M.length := by
  induction M with
  | nil => intro Q v0 v1 v2 v3 v4 v5 v7 v8 v9 v10 v11 v12 v13 v14 v15 v16 _ h2; exact ⟨Q, v9, v10, rfl, h2, rfl⟩
  | cons q M ih =>
    intro Q v0 v1 v2 v3 v4 v5 v7 v8 v9 v10 v11 v12 v13 v14 v15 v16 h1 h2
    rw [List.length_cons] at h1
    have hz : sizeLine = 16777216 := sizeLine_val
    have hx : Q.length < 16777216 := by omega
    have e1 : l3_law [v0, v1, v2, v3, v4, v5, some (.l .s, .list (Q.map paperD)), v7, v8, some (.s, .int q.1), some (.s, .int q.2), v11, v12, v13, v14, v15, v16] = some (.nx [v0, v1, v2, v3, v4, v5, some (.l .s, .list ((Q ++ [Paper.full q.1 q.2]).map paperD)), v7, v8, some (.s, .int q.1), some (.s, .int q.2), v11, v12, v13, v14, v15, v16]) := by
      unfold l3_law
      simp -implicitDefEqProofs (disch := omega) [mSeq_K, seqK_nx, seqK_rt, seqK_bk, seqK_ct, mIfS_K, ifK_t, ifK_f, mTv, mTr, truD, m2, m1, m3, mVar, mC, mCS, mCall, mCons, mNil, rdS, asB, asI, mRet, mRetN, xOf, mSkip, mExp, mSet, mSetF, shareE, mSetT, store, kill, mAnd_K, andK_t, andK_f, mOr_K, orK_t, orK_f, mNot, mAndV, mOrV, mNotV, mIte, mLst, mTup, mApp, pVar, atP, subS, setS, okE, Sh.beq, mPut, mIsN, mNotN, isNon, mIsi, mIsB, mNotB, mSl, oSo, oNo, mCL, mCLL, mCIL, mCI, mFrz, mAug, mBrk, mCnt, mPop, mRevL, iSq, iR1, iR2, iEn, iZp, iRv, ownB, wipeE, mYes, gs0, ss0, gs1, ss1, gs2, ss2, gs3, ss3, gs4, ss4, gs5, ss5, gs6, ss6, gs7, ss7, gs8, ss8, gs9, ss9, gs10, ss10, gs11, ss11, gs12, ss12, gs13, ss13, gs14, ss14, gs15, ss15, gs16, ss16, gs17, ss17, gs18, ss18, gs19, ss19, gs20, ss20, gs21, ss21, gs22, ss22, gs23, ss23, gs24, ss24, gs25, ss25, gs26, ss26, gs27, ss27, gs28, ss28, gs29, ss29, add_ii, sub_ii, mod_ii, div_ii, mul_ii, neg_i, lt_ii, le_ii, gt_ii, ge_ii, eq_ii, ne_ii, len_l, len_t, int_i, int_b, R.sha, ix_t0, ix_t1, ix_t2, ix_t3, eq_ss, ne_ss, eq_bb, ne_bb, hz, hx, paperD]
    have ht : tgT [9, 10] [v0, v1, v2, v3, v4, v5, some (.l .s, .list (Q.map paperD)), v7, v8, v9, v10, v11, v12, v13, v14, v15, v16] (pairD q) = some [v0, v1, v2, v3, v4, v5, some (.l .s, .list (Q.map paperD)), v7, v8, some (.s, .int q.1), some (.s, .int q.2), v11, v12, v13, v14, v15, v16] := by
      simp -implicitDefEqProofs (disch := omega) [mSeq_K, seqK_nx, seqK_rt, seqK_bk, seqK_ct, mIfS_K, ifK_t, ifK_f, mTv, mTr, truD, m2, m1, m3, mVar, mC, mCS, mCall, mCons, mNil, rdS, asB, asI, mRet, mRetN, xOf, mSkip, mExp, mSet, mSetF, shareE, mSetT, store, kill, mAnd_K, andK_t, andK_f, mOr_K, orK_t, orK_f, mNot, mAndV, mOrV, mNotV, mIte, mLst, mTup, mApp, pVar, atP, subS, setS, okE, Sh.beq, mPut, mIsN, mNotN, isNon, mIsi, mIsB, mNotB, mSl, oSo, oNo, mCL, mCLL, mCIL, mCI, mFrz, mAug, mBrk, mCnt, mPop, mRevL, iSq, iR1, iR2, iEn, iZp, iRv, ownB, wipeE, mYes, gs0, ss0, gs1, ss1, gs2, ss2, gs3, ss3, gs4, ss4, gs5, ss5, gs6, ss6, gs7, ss7, gs8, ss8, gs9, ss9, gs10, ss10, gs11, ss11, gs12, ss12, gs13, ss13, gs14, ss14, gs15, ss15, gs16, ss16, gs17, ss17, gs18, ss18, gs19, ss19, gs20, ss20, gs21, ss21, gs22, ss22, gs23, ss23, gs24, ss24, gs25, ss25, gs26, ss26, gs27, ss27, gs28, ss28, gs29, ss29, add_ii, sub_ii, mod_ii, div_ii, mul_ii, neg_i, lt_ii, le_ii, gt_ii, ge_ii, eq_ii, ne_ii, len_l, len_t, int_i, int_b, R.sha, ix_t0, ix_t1, ix_t2, ix_t3, eq_ss, ne_ss, eq_bb, ne_bb, tgN, tgT, tgs, unS, pairD]
    have hb := (congrArg (fun o => Option.bind o l3_law) ht).trans e1
    obtain ⟨Q', w9, w10, e2, e3, e4⟩ := ih (Q ++ [Paper.full q.1 q.2]) v0 v1 v2 v3 v4 v5 v7 v8 (some (.s, .int q.1)) (some (.s, .int q.2)) v11 v12 v13 v14 v15 v16 (by rw [List.length_append, List.length_singleton]; omega) (by
      intro p hp
      rcases List.mem_append.mp hp with hp | hp
      · exact h2 p hp
      · rw [List.mem_singleton] at hp
        subst hp
        intro ps e; cases e)
    rw [List.length_append, List.length_singleton] at e4
    exact ⟨Q', w9, w10, (forL_nx (b := fun d e => (tgT [9, 10] e d).bind l3_law) hb).trans e2, e3, by rw [e4, List.length_cons]; omega⟩
end K56

set_option maxRecDepth 100000
set_option linter.all false
set_option maxHeartbeats 4000000
namespace K56
open PySem M L2
theorem law_5 (N : List Note) (hg : GoodNs N) (dr : List Int) (hdr : dr.length = 6) (hd : ∀ i, i < 6 → 0 ≤ nth dr i) (ps : List Piece) (hps : ps.length ≤ 1000) (hbe : ∀ p ∈ ps, p.b < p.e) (Q : List Paper) (hQ : ∀ p ∈ Q, POk' p) (hl : Q.length ≤ 1000) (v0 v2 v4 v5 v8 v9 v10 v11 v12 v13 v14 v15 v16 : Option (Sh × D)) :
    ∃ (Q' : List Paper) (w8 : Option (Sh × D)), l5_law [v0, some (.s, .list (N.map noteD)), v2, some (.s, .list (dr.map .int)), v4, v5, some (.l .s, .list (Q.map paperD)), some (.s, psD ps), v8, v9, v10, v11, v12, v13, v14, v15, v16] =
      some (.nx [v0, some (.s, .list (N.map noteD)), v2, some (.s, .list (dr.map .int)), v4, v5, some (.l .s, .list (Q'.map paperD)), some (.s, psD ps), w8, v9, v10, v11, v12, v13, v14, v15, v16]) ∧ (∀ p ∈ Q', POk' p) ∧ Q'.length ≤ Q.length + 50 := by
  have hn1 := hg.1
  obtain ⟨L, e1, e2, e3⟩ := bent_ok ps dr (N.length : Nat) hps hbe hdr (by omega) hd
  obtain ⟨Q', w8, f1, f2, f3⟩ := law_4 L Q v0 (some (.s, .list (N.map noteD))) v2 (some (.s, .list (dr.map .int))) v4 v5 (some (.s, psD ps)) v8 v9 v10 v11 v12 v13 v14 v15 v16 (by omega) hQ e3
  refine ⟨Q', w8, ?_, f2, by omega⟩
  unfold l5_law
  exact mFor_of (by simp -implicitDefEqProofs (disch := omega) [mSeq_K, seqK_nx, seqK_rt, seqK_bk, seqK_ct, mIfS_K, ifK_t, ifK_f, mTv, mTr, truD, m2, m1, m3, mVar, mC, mCS, mCall, mCons, mNil, rdS, asB, asI, mRet, mRetN, xOf, mSkip, mExp, mSet, mSetF, shareE, mSetT, store, kill, mAnd_K, andK_t, andK_f, mOr_K, orK_t, orK_f, mNot, mAndV, mOrV, mNotV, mIte, mLst, mTup, mApp, pVar, atP, subS, setS, okE, Sh.beq, mPut, mIsN, mNotN, isNon, mIsi, mIsB, mNotB, mSl, oSo, oNo, mCL, mCLL, mCIL, mCI, mFrz, mAug, mBrk, mCnt, mPop, mRevL, iSq, iR1, iR2, iEn, iZp, iRv, ownB, wipeE, mYes, gs0, ss0, gs1, ss1, gs2, ss2, gs3, ss3, gs4, ss4, gs5, ss5, gs6, ss6, gs7, ss7, gs8, ss8, gs9, ss9, gs10, ss10, gs11, ss11, gs12, ss12, gs13, ss13, gs14, ss14, gs15, ss15, gs16, ss16, gs17, ss17, gs18, ss18, gs19, ss19, gs20, ss20, gs21, ss21, gs22, ss22, gs23, ss23, gs24, ss24, gs25, ss25, gs26, ss26, gs27, ss27, gs28, ss28, gs29, ss29, add_ii, sub_ii, mod_ii, div_ii, mul_ii, neg_i, lt_ii, le_ii, gt_ii, ge_ii, eq_ii, ne_ii, len_l, len_t, int_i, int_b, R.sha, ix_t0, ix_t1, ix_t2, ix_t3, eq_ss, ne_ss, eq_bb, ne_bb, e1]) f1
theorem pcs_be {told : List (Option Nat)} {ps : List Piece} {i : Nat} (h : Pcs told ps i) : ∀ p ∈ ps, p.b < p.e := fun p hp => by
  obtain ⟨k, _, _, h3, _⟩ := h.ok p hp
  exact h3
theorem law_true : ∀ ss : List Int, ss.length ≤ 63 → ∃ sh, m_law [.list (ss.map .int)] = some (sh, .bool true) := by
  intro ss _
  obtain ⟨N, d1, g1⟩ := dated_ok ss 1 (by decide)
  obtain ⟨O, d2, g2⟩ := dated_ok ss 12 (by decide)
  have hc := cel_m ss 0 (by decide)
  have hm := num_m (celF ss 0) 6 5040 (by decide) (by decide) (by decide) (by decide)
  have hdr : (numF (celF ss 0) 6 5040).length = 6 := num_len (celF ss 0) 6 5040 (by decide) (by decide) (by decide) (by decide)
  have hd : ∀ i, i < 6 → 0 ≤ nth (numF (celF ss 0) 6 5040) i := fun i hi => (num_bnd (celF ss 0) 6 5040 i (by decide) (by decide) (by decide) (by decide) hi).1
  generalize numF (celF ss 0) 6 5040 = dr at *
  obtain ⟨v, v1, v2, v3⟩ := verdict_ok N g1
  obtain ⟨told, late, t1, left, i, hT, hi, _⟩ := told_ok N g1
  have htl := hT.tl
  obtain ⟨ps, p1, hP⟩ := pieces_ok told (by omega)
  obtain ⟨lps, told2, l1, hP2, l2⟩ := later_ok N g1
  have hpl := hP.len
  have hpl2 := hP2.len
  obtain ⟨M, m1, m2'⟩ := moments_ok N g1 dr hdr hd
  have q0 : ∀ p ∈ [v, Paper.plan ps, .full1, .plan3 ps, .plans ps, .emp, .plan0, .fuller], POk' p := by
    intro p hp
    simp only [List.mem_cons, List.not_mem_nil, or_false] at hp
    rcases hp with rfl | rfl | rfl | rfl | rfl | rfl | rfl | rfl
    · exact v2
    all_goals (intro qs e; cases e)
    omega
  obtain ⟨Q1, w8, a1, a2, a3⟩ := law_5 N g1 dr hdr hd ps (by omega) (pcs_be hP) _ q0 (by simp) (some (.s, .list (ss.map .int))) (some (.s, .list (O.map noteD))) (some (.s, paperD v)) (some (.s, psD ps)) none none none none none none none none none
  simp only [List.length_cons, List.length_nil] at a3
  obtain ⟨Q2, x8, b1, b2, b3⟩ := law_5 N g1 dr hdr hd lps (by omega) (pcs_be hP2) Q1 a2 (by omega) (some (.s, .list (ss.map .int))) (some (.s, .list (O.map noteD))) (some (.s, paperD v)) (some (.s, psD ps)) w8 none none none none none none none none
  obtain ⟨Q3, x9, x10, c1, c2, c3⟩ := law_3 M Q2 (some (.s, .list (ss.map .int))) (some (.s, .list (N.map noteD))) (some (.s, .list (O.map noteD))) (some (.s, .list (dr.map .int))) (some (.s, paperD v)) (some (.s, psD ps)) (some (.s, psD lps)) x8 none none none none none none none none (by omega) b2
  obtain ⟨y11, y12, y13, y14, y15, e1⟩ := law_2 N g1 Q3 c2 (by omega) (some (.s, .list (ss.map .int))) (some (.s, .list (N.map noteD))) (some (.s, .list (O.map noteD))) (some (.s, .list (dr.map .int))) (some (.s, paperD v)) (some (.s, psD ps)) x8 x9 x10 none none none none none none
  obtain ⟨z11, z12, z13, z14, z15, f1⟩ := law_2 O g2 Q3 c2 (by omega) (some (.s, .list (ss.map .int))) (some (.s, .list (N.map noteD))) (some (.s, .list (O.map noteD))) (some (.s, .list (dr.map .int))) (some (.s, paperD v)) (some (.s, psD ps)) x8 x9 x10 y11 y12 y13 y14 y15 none
  have hb1 := (tgN_bind (f := l5_law) (env := [some (.s, .list (ss.map .int)), some (.s, .list (N.map noteD)), some (.s, .list (O.map noteD)), some (.s, .list (dr.map .int)), some (.s, paperD v), some (.s, psD ps), some (.l .s, .list ([v, Paper.plan ps, .full1, .plan3 ps, .plans ps, .emp, .plan0, .fuller].map paperD)), none, none, none, none, none, none, none, none, none, none]) (i := 7) (d := psD ps) (by decide : 7 < 17)).trans a1
  have hb2 := (tgN_bind (f := l5_law) (env := [some (.s, .list (ss.map .int)), some (.s, .list (N.map noteD)), some (.s, .list (O.map noteD)), some (.s, .list (dr.map .int)), some (.s, paperD v), some (.s, psD ps), some (.l .s, .list (Q1.map paperD)), some (.s, psD ps), w8, none, none, none, none, none, none, none, none]) (i := 7) (d := psD lps) (by decide : 7 < 17)).trans b1
  have hb3 := (tgN_bind (f := l2_law) (env := [some (.s, .list (ss.map .int)), some (.s, .list (N.map noteD)), some (.s, .list (O.map noteD)), some (.s, .list (dr.map .int)), some (.s, paperD v), some (.s, psD ps), some (.l .s, .list (Q3.map paperD)), some (.s, psD lps), x8, x9, x10, none, none, none, none, none, none]) (i := 7) (d := .list (N.map noteD)) (by decide : 7 < 17)).trans e1
  have hb4 := (tgN_bind (f := l2_law) (env := [some (.s, .list (ss.map .int)), some (.s, .list (N.map noteD)), some (.s, .list (O.map noteD)), some (.s, .list (dr.map .int)), some (.s, paperD v), some (.s, psD ps), some (.l .s, .list (Q3.map paperD)), some (.s, .list (N.map noteD)), x8, x9, x10, y11, y12, y13, y14, y15, none]) (i := 7) (d := .list (O.map noteD)) (by decide : 7 < 17)).trans f1
  have F1 := mFor_of (mi := iSq (mLst (mCons (mVar 5) (mCons (mCall (m_law_later_first) (mCons (mVar 1) (mNil))) (mNil))))) (tg := tgN 7) (body := l5_law) (env := [some (.s, .list (ss.map .int)), some (.s, .list (N.map noteD)), some (.s, .list (O.map noteD)), some (.s, .list (dr.map .int)), some (.s, paperD v), some (.s, psD ps), some (.l .s, .list ([v, Paper.plan ps, .full1, .plan3 ps, .plans ps, .emp, .plan0, .fuller].map paperD)), none, none, none, none, none, none, none, none, none, none]) (ds := [psD ps, psD lps]) (by simp -implicitDefEqProofs (disch := omega) [mSeq_K, seqK_nx, seqK_rt, seqK_bk, seqK_ct, mIfS_K, ifK_t, ifK_f, mTv, mTr, truD, m2, m1, m3, mVar, mC, mCS, mCall, mCons, mNil, rdS, asB, asI, mRet, mRetN, xOf, mSkip, mExp, mSet, mSetF, shareE, mSetT, store, kill, mAnd_K, andK_t, andK_f, mOr_K, orK_t, orK_f, mNot, mAndV, mOrV, mNotV, mIte, mLst, mTup, mApp, pVar, atP, subS, setS, okE, Sh.beq, mPut, mIsN, mNotN, isNon, mIsi, mIsB, mNotB, mSl, oSo, oNo, mCL, mCLL, mCIL, mCI, mFrz, mAug, mBrk, mCnt, mPop, mRevL, iSq, iR1, iR2, iEn, iZp, iRv, ownB, wipeE, mYes, gs0, ss0, gs1, ss1, gs2, ss2, gs3, ss3, gs4, ss4, gs5, ss5, gs6, ss6, gs7, ss7, gs8, ss8, gs9, ss9, gs10, ss10, gs11, ss11, gs12, ss12, gs13, ss13, gs14, ss14, gs15, ss15, gs16, ss16, gs17, ss17, gs18, ss18, gs19, ss19, gs20, ss20, gs21, ss21, gs22, ss22, gs23, ss23, gs24, ss24, gs25, ss25, gs26, ss26, gs27, ss27, gs28, ss28, gs29, ss29, add_ii, sub_ii, mod_ii, div_ii, mul_ii, neg_i, lt_ii, le_ii, gt_ii, ge_ii, eq_ii, ne_ii, len_l, len_t, int_i, int_b, R.sha, ix_t0, ix_t1, ix_t2, ix_t3, eq_ss, ne_ss, eq_bb, ne_bb, l1])
    ((forL_nx (b := fun d e => (tgN 7 e d).bind l5_law) hb1).trans (forL_nx (b := fun d e => (tgN 7 e d).bind l5_law) hb2))
  have F2 := mFor_of (mi := iSq (mCall (m_law_moments) (mCons (mVar 1) (mCons (mVar 3) (mNil))))) (tg := tgT [9, 10]) (body := l3_law) (by simp -implicitDefEqProofs (disch := omega) [mSeq_K, seqK_nx, seqK_rt, seqK_bk, seqK_ct, mIfS_K, ifK_t, ifK_f, mTv, mTr, truD, m2, m1, m3, mVar, mC, mCS, mCall, mCons, mNil, rdS, asB, asI, mRet, mRetN, xOf, mSkip, mExp, mSet, mSetF, shareE, mSetT, store, kill, mAnd_K, andK_t, andK_f, mOr_K, orK_t, orK_f, mNot, mAndV, mOrV, mNotV, mIte, mLst, mTup, mApp, pVar, atP, subS, setS, okE, Sh.beq, mPut, mIsN, mNotN, isNon, mIsi, mIsB, mNotB, mSl, oSo, oNo, mCL, mCLL, mCIL, mCI, mFrz, mAug, mBrk, mCnt, mPop, mRevL, iSq, iR1, iR2, iEn, iZp, iRv, ownB, wipeE, mYes, gs0, ss0, gs1, ss1, gs2, ss2, gs3, ss3, gs4, ss4, gs5, ss5, gs6, ss6, gs7, ss7, gs8, ss8, gs9, ss9, gs10, ss10, gs11, ss11, gs12, ss12, gs13, ss13, gs14, ss14, gs15, ss15, gs16, ss16, gs17, ss17, gs18, ss18, gs19, ss19, gs20, ss20, gs21, ss21, gs22, ss22, gs23, ss23, gs24, ss24, gs25, ss25, gs26, ss26, gs27, ss27, gs28, ss28, gs29, ss29, add_ii, sub_ii, mod_ii, div_ii, mul_ii, neg_i, lt_ii, le_ii, gt_ii, ge_ii, eq_ii, ne_ii, len_l, len_t, int_i, int_b, R.sha, ix_t0, ix_t1, ix_t2, ix_t3, eq_ss, ne_ss, eq_bb, ne_bb, m1]) c1
  have F3 := mFor_of (mi := iSq (mLst (mCons (mVar 1) (mCons (mVar 2) (mNil))))) (tg := tgN 7) (body := l2_law) (env := [some (.s, .list (ss.map .int)), some (.s, .list (N.map noteD)), some (.s, .list (O.map noteD)), some (.s, .list (dr.map .int)), some (.s, paperD v), some (.s, psD ps), some (.l .s, .list (Q3.map paperD)), some (.s, psD lps), x8, x9, x10, none, none, none, none, none, none]) (ds := [.list (N.map noteD), .list (O.map noteD)]) (by simp -implicitDefEqProofs (disch := omega) [mSeq_K, seqK_nx, seqK_rt, seqK_bk, seqK_ct, mIfS_K, ifK_t, ifK_f, mTv, mTr, truD, m2, m1, m3, mVar, mC, mCS, mCall, mCons, mNil, rdS, asB, asI, mRet, mRetN, xOf, mSkip, mExp, mSet, mSetF, shareE, mSetT, store, kill, mAnd_K, andK_t, andK_f, mOr_K, orK_t, orK_f, mNot, mAndV, mOrV, mNotV, mIte, mLst, mTup, mApp, pVar, atP, subS, setS, okE, Sh.beq, mPut, mIsN, mNotN, isNon, mIsi, mIsB, mNotB, mSl, oSo, oNo, mCL, mCLL, mCIL, mCI, mFrz, mAug, mBrk, mCnt, mPop, mRevL, iSq, iR1, iR2, iEn, iZp, iRv, ownB, wipeE, mYes, gs0, ss0, gs1, ss1, gs2, ss2, gs3, ss3, gs4, ss4, gs5, ss5, gs6, ss6, gs7, ss7, gs8, ss8, gs9, ss9, gs10, ss10, gs11, ss11, gs12, ss12, gs13, ss13, gs14, ss14, gs15, ss15, gs16, ss16, gs17, ss17, gs18, ss18, gs19, ss19, gs20, ss20, gs21, ss21, gs22, ss22, gs23, ss23, gs24, ss24, gs25, ss25, gs26, ss26, gs27, ss27, gs28, ss28, gs29, ss29, add_ii, sub_ii, mod_ii, div_ii, mul_ii, neg_i, lt_ii, le_ii, gt_ii, ge_ii, eq_ii, ne_ii, len_l, len_t, int_i, int_b, R.sha, ix_t0, ix_t1, ix_t2, ix_t3, eq_ss, ne_ss, eq_bb, ne_bb, ])
    ((forL_nx (b := fun d e => (tgN 7 e d).bind l2_law) hb3).trans (forL_nx (b := fun d e => (tgN 7 e d).bind l2_law) hb4))
  have e0 : [v, Paper.plan ps, .full1, .plan3 ps, .plans ps, .emp, .plan0, .fuller].map paperD = [paperD v, .tuple [.str "plan", psD ps], .tuple [.str "full", .int 0], .tuple [.str "plan", psD ps, .int 0], .tuple [.str "plans", psD ps], .tuple [], .tuple [.str "plan"], .tuple [.str "fuller", .int 0, .int 1]] := rfl
  rw [e0] at F1
  simp only [forL] at F1 F3
  have fin : b_law [some (.s, .list (ss.map .int)), none, none, none, none, none, none, none, none, none, none, none, none, none, none, none, none] = some (.rt .s (.bool true)) := by
    unfold b_law
    simp -implicitDefEqProofs (disch := omega) [mSeq_K, seqK_nx, seqK_rt, seqK_bk, seqK_ct, mIfS_K, ifK_t, ifK_f, mTv, mTr, truD, m2, m1, m3, mVar, mC, mCS, mCall, mCons, mNil, rdS, asB, asI, mRet, mRetN, xOf, mSkip, mExp, mSet, mSetF, shareE, mSetT, store, kill, mAnd_K, andK_t, andK_f, mOr_K, orK_t, orK_f, mNot, mAndV, mOrV, mNotV, mIte, mLst, mTup, mApp, pVar, atP, subS, setS, okE, Sh.beq, mPut, mIsN, mNotN, isNon, mIsi, mIsB, mNotB, mSl, oSo, oNo, mCL, mCLL, mCIL, mCI, mFrz, mAug, mBrk, mCnt, mPop, mRevL, iSq, iR1, iR2, iEn, iZp, iRv, ownB, wipeE, mYes, gs0, ss0, gs1, ss1, gs2, ss2, gs3, ss3, gs4, ss4, gs5, ss5, gs6, ss6, gs7, ss7, gs8, ss8, gs9, ss9, gs10, ss10, gs11, ss11, gs12, ss12, gs13, ss13, gs14, ss14, gs15, ss15, gs16, ss16, gs17, ss17, gs18, ss18, gs19, ss19, gs20, ss20, gs21, ss21, gs22, ss22, gs23, ss23, gs24, ss24, gs25, ss25, gs26, ss26, gs27, ss27, gs28, ss28, gs29, ss29, add_ii, sub_ii, mod_ii, div_ii, mul_ii, neg_i, lt_ii, le_ii, gt_ii, ge_ii, eq_ii, ne_ii, len_l, len_t, int_i, int_b, R.sha, ix_t0, ix_t1, ix_t2, ix_t3, eq_ss, ne_ss, eq_bb, ne_bb, d1, d2, hc, hm, v1, t1, p1, ps_f, F1, F2, F3]
  exact ⟨.s, runF_rt (n := 17) rfl fin⟩
end K56

open PySem PySem.W PyProof.Rows in
set_option maxRecDepth 100000 in
set_option maxHeartbeats 0 in
theorem PySem.Challenge.cw_screenspoken_k56_judge_of_dated_notes_holds : PySem.Challenge.rw_screenspoken_k56_judge_of_dated_notes.Holds := by
  w_on; o_law; k_head; (case hw => w_witness2)
  k_fill
  refine M.walk_law (k := 4) (l := PySem.Challenge.rw_screenspoken_k56_judge_of_dated_notes) rfl rfl ⟨rfl, by decide, by decide⟩ (fun w h Y => PySem.W.kIn_of Y) ?F
  case F =>
    intro w mg fa h KX G hmg
    refine' K56.fin_mk KX G hmg K56.law_true ?a0 ?l0 ?c0 ?k0 ?a1 ?l1 ?c1 ?k1 ?a2 ?l2 ?c2 ?k2 ?a3 ?l3 ?c3 ?k3 ?a4 ?l4 ?c4 ?k4 ?a5 ?l5 ?c5 ?k5 ?a6 ?l6 ?c6 ?k6 ?a7 ?l7 ?c7 ?k7 ?a8 ?l8 ?c8 ?k8 ?a9 ?l9 ?c9 ?k9 ?a10 ?l10 ?c10 ?k10 ?a11 ?l11 ?c11 ?k11 ?a12 ?l12 ?c12 ?k12 ?a13 ?l13 ?c13 ?k13 ?z_all ?z_any ?z_bool ?z_int ?z_isinstance ?z_len ?z_list ?z_max ?z_min ?z_range ?z_sorted ?z_sum
    (case a0 => k_is)
    (case l0 => k_is)
    (case c0 => k_is)
    (case k0 => k_is)
    (case a1 => k_is)
    (case l1 => k_is)
    (case c1 => k_is)
    (case k1 => k_is)
    (case a2 => k_is)
    (case l2 => k_is)
    (case c2 => k_is)
    (case k2 => k_is)
    (case a3 => k_is)
    (case l3 => k_is)
    (case c3 => k_is)
    (case k3 => k_is)
    (case a4 => k_is)
    (case l4 => k_is)
    (case c4 => k_is)
    (case k4 => k_is)
    (case a5 => k_is)
    (case l5 => k_is)
    (case c5 => k_is)
    (case k5 => k_is)
    (case a6 => k_is)
    (case l6 => k_is)
    (case c6 => k_is)
    (case k6 => k_is)
    (case a7 => k_is)
    (case l7 => k_is)
    (case c7 => k_is)
    (case k7 => k_is)
    (case a8 => k_is)
    (case l8 => k_is)
    (case c8 => k_is)
    (case k8 => k_is)
    (case a9 => k_is)
    (case l9 => k_is)
    (case c9 => k_is)
    (case k9 => k_is)
    (case a10 => k_is)
    (case l10 => k_is)
    (case c10 => k_is)
    (case k10 => k_is)
    (case a11 => k_is)
    (case l11 => k_is)
    (case c11 => k_is)
    (case k11 => k_is)
    (case a12 => k_is)
    (case l12 => k_is)
    (case c12 => k_is)
    (case k12 => k_is)
    (case a13 => k_is)
    (case l13 => k_is)
    (case c13 => k_is)
    (case k13 => k_is)
    (case z_all => k_is)
    (case z_any => k_is)
    (case z_bool => k_is)
    (case z_int => k_is)
    (case z_isinstance => k_is)
    (case z_len => k_is)
    (case z_list => k_is)
    (case z_max => k_is)
    (case z_min => k_is)
    (case z_range => k_is)
    (case z_sorted => k_is)
    (case z_sum => k_is)

