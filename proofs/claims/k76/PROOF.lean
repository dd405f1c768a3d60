import PyProof.Rows.All
import Wide.All
import OpenK.AllK
import Wide.FinOn
import HandS.ForMost
import HandS.TupAny
import HandS.Conv
import HandS.TupMul
import HandS.Deep
import HandS.Flow
import HandS.Walk
import HandS.Zip
import HandS.Style
import HandS.RaiseMore
import KE.SortData
import PyProof.ReprLen
import PyProof.ReprRoads
import KE.GoesEnum
import HandS.Dict
import HandS.DictTup
import PyProof.AttrMissHeap
import KE.KDictOf
import KE.KRevSl
import HandS.Ends
import HandS.NoneIn
import KE.KIndexWalk
import PySem.Challenge.RW_swapladders_k76_whole_greatest_products
set_option Elab.async false
set_option linter.all false
set_option autoImplicit false
set_option maxRecDepth 100000
/-! PV1: a value semantics laid over the hand layer: trees of draws, slots, regions of the heap, readings by value. -/
namespace PV
open PySem PySem.Spec L2

/-! ### trees of draws -/
inductive Tr (α : Type) where
  | ret (a : α)
  | pick (n : Int) (k : Int → Tr α)
  | any (k : Int → Tr α)
  | bad
namespace Tr
def bind {α β : Type} : Tr α → (α → Tr β) → Tr β
  | .ret a, f => f a
  | .pick n k, f => .pick n fun i => (k i).bind f
  | .any k, f => .any fun i => (k i).bind f
  | .bad, _ => .bad
def all {α : Type} (P : α → Prop) : Tr α → Prop
  | .ret a => P a
  | .pick n k => ∀ i, 0 ≤ i → i < n → (k i).all P
  | .any k => ∀ i, (k i).all P
  | .bad => False
end Tr
instance : Monad Tr where
  pure := Tr.ret
  bind := Tr.bind
section
variable {α β γ : Type}
@[simp] theorem pure_eq (a : α) : (pure a : Tr α) = .ret a := rfl
@[simp] theorem bind_eq (t : Tr α) (f : α → Tr β) : (t >>= f) = t.bind f := rfl
@[simp] theorem bind_ret (a : α) (f : α → Tr β) : (Tr.ret a).bind f = f a := rfl
@[simp] theorem bind_bad (f : α → Tr β) : (Tr.bad : Tr α).bind f = .bad := rfl
@[simp] theorem bind_pick (n : Int) (k : Int → Tr α) (f : α → Tr β) : (Tr.pick n k).bind f = .pick n fun i => (k i).bind f := rfl
@[simp] theorem bind_any (k : Int → Tr α) (f : α → Tr β) : (Tr.any k).bind f = .any fun i => (k i).bind f := rfl
@[simp] theorem all_any (P : α → Prop) (k : Int → Tr α) : (Tr.any k).all P = ∀ i, (k i).all P := rfl
@[simp] theorem all_ret (P : α → Prop) (a : α) : (Tr.ret a).all P = P a := rfl
@[simp] theorem all_bad (P : α → Prop) : (Tr.bad : Tr α).all P = False := rfl
@[simp] theorem all_pick (P : α → Prop) (n : Int) (k : Int → Tr α) : (Tr.pick n k).all P = ∀ i, 0 ≤ i → i < n → (k i).all P := rfl
theorem all_mono {P P' : α → Prop} (h : ∀ a, P a → P' a) : ∀ {t : Tr α}, t.all P → t.all P'
  | .ret a, q => h a q
  | .pick _ _, q => fun i h0 h1 => all_mono h (q i h0 h1)
  | .any _, q => fun i => all_mono h (q i)
theorem all_bind {P : β → Prop} {f : α → Tr β} : ∀ {t : Tr α}, (t.bind f).all P ↔ t.all fun a => (f a).all P
  | .ret _ => Iff.rfl
  | .pick _ k => ⟨fun q i h0 h1 => (all_bind (t := k i)).mp (q i h0 h1), fun q i h0 h1 => (all_bind (t := k i)).mpr (q i h0 h1)⟩
  | .any k => ⟨fun q i => (all_bind (t := k i)).mp (q i), fun q i => (all_bind (t := k i)).mpr (q i)⟩
  | .bad => Iff.rfl
theorem bind_assoc {f : α → Tr β} {g : β → Tr γ} : ∀ t : Tr α, (t.bind f).bind g = t.bind fun a => (f a).bind g
  | .ret _ => rfl
  | .pick n k => congrArg (Tr.pick n) (funext fun i => bind_assoc (k i))
  | .any k => congrArg Tr.any (funext fun i => bind_assoc (k i))
  | .bad => rfl
theorem bind_pure : ∀ t : Tr α, t.bind Tr.ret = t
  | .ret _ => rfl
  | .pick n k => congrArg (Tr.pick n) (funext fun i => bind_pure (k i))
  | .any k => congrArg Tr.any (funext fun i => bind_pure (k i))
  | .bad => rfl
end

/-! ### what a slot holds -/
inductive Sl where
  | imm (d : PyData)
  | lst (ds : List PyData)
  | dT (kvs : List (List Key × PyData))
  | dK (kvs : List (Key × PyData))
  | fT (kvs : List (List Key × PyData))
  | fK (kvs : List (Key × PyData))
  | ft (ds : List PyData)
  | scr (ns : List Int)
  | src
def Sl.own : Sl → Bool
  | .lst _ => true
  | .dT _ => true
  | .dK _ => true
  | _ => false
abbrev Ev := List (Option Sl)

/-! ### regions of the abstract heap -/
abbrev Src := Option (Addr × Addr)
def inS (S : Src) (x : Addr) : Prop := match S with
  | some (a, c) => x = a ∨ x = c
  | none => False
instance (S : Src) (x : Addr) : Decidable (inS S x) := by
  unfold inS
  split <;> infer_instance
def SV (S : Src) (H : Hp) : Prop := match S with
  | none => True
  | some (a, c) => a ≠ c ∧ ∃ (l m t : Int) (cs : List Int), H a = some (.dK [(.inr "cells", .ref c), (.inr "left", .int l), (.inr "mixed", .int m), (.inr "turn", .int t)]) ∧ H c = some (.lst (cs.map V.int))

def isKeyD : PyData → Bool
  | .int _ => true
  | .str _ => true
  | _ => false
/-- which tuples may stand with their object told -/
def frzOk (_ds : List PyData) : Bool := true
/-- a tuple in Z, its object told or not -/
def FrzT (Z : Hp) (a : Addr) (xs : List V) (ds : List PyData) : Prop := frzOk ds = true ∧ ∃ o : Obj, Z a = some (.frz o (.tup xs)) ∧ o.dict = none
def TupZ (Z : Hp) (a : Addr) (xs : List V) (ds : List PyData) : Prop := FrzT Z a xs ds
theorem FrzT.mono {Z Z' : Hp} {a : Addr} {xs : List V} {ds : List PyData} (e : Same Z Z') (h : FrzT Z a xs ds) : FrzT Z' a xs ds :=
  let ⟨f, o, q, d⟩ := h; ⟨f, o, e _ _ q, d⟩
theorem TupZ.mono {Z Z' : Hp} {a : Addr} {xs : List V} {ds : List PyData} (e : Same Z Z') (h : TupZ Z a xs ds) : TupZ Z' a xs ds := FrzT.mono e h
theorem TupZ.sq {K : PySem.W.Frag} {Z : Hp} {a : Addr} {xs : List V} {ds : List PyData} (h : TupZ Z a xs ds) : SqT K Z a xs := by
  obtain ⟨_, o, h, _⟩ := h
  exact .inl (.inr ⟨o, h⟩)
/-- what a new tuple is, its object told -/
def TupNew (H : Hp) (Q : VK) (xs : List V) : Prop := ∀ (p : Addr) (o : Obj), H p = none → o.dict = none → Q (.ref p) (upd H p (.frz o (.tup xs)))
theorem TupZ.new {Z : Hp} {p : Addr} {o : Obj} {xs : List V} {ds : List PyData} (h : o.dict = none) : TupZ (upd Z p (.frz o (.tup xs))) p xs ds := ⟨rfl, o, upd_same, h⟩
mutual
/-- data of the lasting heap Z -/
inductive Rp (K : PySem.W.Frag) (Z : Hp) : V → PyData → Prop
  | non : Rp K Z .non .none
  | bl (b : Bool) : Rp K Z (.bl b) (.bool b)
  | int (i : Int) : Rp K Z (.int i) (.int i)
  | str (x : Str) : Rp K Z (.str x) (.str x)
  | lst {a : Addr} {xs : List V} {ds : List PyData} : Z a = some (.lst xs) → RpAll K Z xs ds → Rp K Z (.ref a) (.list ds)
  | tup {a : Addr} {xs : List V} {ds : List PyData} : TupZ Z a xs ds → RpAll K Z xs ds → Rp K Z (.ref a) (.tuple ds)
inductive RpAll (K : PySem.W.Frag) (Z : Hp) : List V → List PyData → Prop
  | nil : RpAll K Z [] []
  | cons {v : V} {vs : List V} {d : PyData} {ds : List PyData} : Rp K Z v d → RpAll K Z vs ds → RpAll K Z (v :: vs) (d :: ds)
end

theorem Same.sql {K : PySem.W.Frag} {H H' : Hp} {a : Addr} {xs : List V} (e : Same H H') (h : SqL K H a xs) : SqL K H' a xs := by
  rcases h with (h | ⟨o, h⟩) | h
  · exact .inl (.inl (e _ _ h))
  · exact .inl (.inr ⟨o, e _ _ h⟩)
  · exact .inr h
theorem Same.tup {K : PySem.W.Frag} {H H' : Hp} {a : Addr} {xs : List V} (e : Same H H') (h : SqT K H a xs) : SqT K H' a xs := by
  rcases h with (h | ⟨o, h⟩) | h
  · exact .inl (.inl (e _ _ h))
  · exact .inl (.inr ⟨o, e _ _ h⟩)
  · exact .inr h
section
variable {K : PySem.W.Frag} {Z Z' : Hp}
mutual
theorem Rp.mono (e : Same Z Z') : ∀ {d : PyData} {v : V}, Rp K Z v d → Rp K Z' v d
  | _, _, .non => .non
  | _, _, .bl b => .bl b
  | _, _, .int i => .int i
  | _, _, .str x => .str x
  | _, _, .lst h q => .lst (e _ _ h) (RpAll.mono e q)
  | _, _, .tup h q => .tup (h.mono e) (RpAll.mono e q)
theorem RpAll.mono (e : Same Z Z') : ∀ {ds : List PyData} {vs : List V}, RpAll K Z vs ds → RpAll K Z' vs ds
  | _, _, .nil => .nil
  | _, _, .cons h q => .cons (Rp.mono e h) (RpAll.mono e q)
end
mutual
theorem Rp.dp : ∀ {d : PyData} {v : V}, Rp K Z v d → Dp K Z v d
  | _, _, .non => .non
  | _, _, .bl b => .bl b
  | _, _, .int i => .int i
  | _, _, .str x => .str x
  | _, _, .lst h q => .lst (.of h) (RpAll.dp q)
  | _, _, .tup h q => .tup h.sq (RpAll.dp q)
theorem RpAll.dp : ∀ {ds : List PyData} {vs : List V}, RpAll K Z vs ds → DpAll K Z vs ds
  | _, _, .nil => .nil
  | _, _, .cons h q => .cons (Rp.dp h) (RpAll.dp q)
end
theorem RpAll.length : ∀ {ds : List PyData} {vs : List V}, RpAll K Z vs ds → vs.length = ds.length
  | _, _, .nil => rfl
  | _, _, .cons _ q => congrArg (· + 1) q.length
theorem RpAll.get : ∀ {ds : List PyData} {vs : List V} {i : Nat} {v : V}, RpAll K Z vs ds → vs[i]? = some v → ∃ d, ds[i]? = some d ∧ Rp K Z v d
  | _, _, i, v, .nil, h => by simp at h
  | _, _, 0, v, .cons r _, h => by simp at h; subst h; exact ⟨_, rfl, r⟩
  | _, _, i + 1, v, .cons _ q, h => by
    obtain ⟨d, e, r⟩ := q.get (i := i) (by simpa using h)
    exact ⟨d, by simpa using e, r⟩
theorem RpAll.get' : ∀ {ds : List PyData} {vs : List V} {i : Nat} {d : PyData}, RpAll K Z vs ds → ds[i]? = some d → ∃ v, vs[i]? = some v ∧ Rp K Z v d
  | _, _, i, v, .nil, h => by simp at h
  | _, _, 0, v, .cons r _, h => by simp at h; subst h; exact ⟨_, rfl, r⟩
  | _, _, i + 1, v, .cons _ q, h => by
    obtain ⟨d, e, r⟩ := q.get' (i := i) (by simpa using h)
    exact ⟨d, by simpa using e, r⟩
theorem RpAll.append : ∀ {ds es : List PyData} {vs ws : List V}, RpAll K Z vs ds → RpAll K Z ws es → RpAll K Z (vs ++ ws) (ds ++ es)
  | _, _, _, _, .nil, s => s
  | _, _, _, _, .cons r t, s => .cons r (t.append s)
theorem RpAll.take : ∀ {ds : List PyData} {vs : List V} (n : Nat), RpAll K Z vs ds → RpAll K Z (vs.take n) (ds.take n)
  | _, _, 0, _ => .nil
  | _, _, _ + 1, .nil => .nil
  | _, _, n + 1, .cons r t => .cons r (t.take n)
theorem RpAll.drop : ∀ {ds : List PyData} {vs : List V} (n : Nat), RpAll K Z vs ds → RpAll K Z (vs.drop n) (ds.drop n)
  | _, _, 0, r => r
  | _, _, _ + 1, .nil => .nil
  | _, _, n + 1, .cons _ t => t.drop n
theorem RpAll.set {v : V} {d : PyData} (r : Rp K Z v d) : ∀ {ds : List PyData} {vs : List V} (i : Nat), RpAll K Z vs ds → RpAll K Z (vs.set i v) (ds.set i d)
  | _, _, _, .nil => .nil
  | _, _, 0, .cons _ t => .cons r t
  | _, _, i + 1, .cons q t => .cons q (RpAll.set r i t)
theorem RpAll.reverse : ∀ {ds : List PyData} {vs : List V}, RpAll K Z vs ds → RpAll K Z vs.reverse ds.reverse
  | _, _, .nil => .nil
  | _, _, .cons r t => by
    rw [List.reverse_cons, List.reverse_cons]
    exact t.reverse.append (.cons r .nil)
theorem RpAll.eraseIdx : ∀ {ds : List PyData} {vs : List V} (i : Nat), RpAll K Z vs ds → RpAll K Z (vs.eraseIdx i) (ds.eraseIdx i)
  | _, _, _, .nil => .nil
  | _, _, 0, .cons _ t => t
  | _, _, i + 1, .cons r t => .cons r (t.eraseIdx i)
theorem RpAll.rep {ds : List PyData} {vs : List V} (h : RpAll K Z vs ds) : ∀ k : Nat, RpAll K Z (List.replicate k vs).flatten (List.replicate k ds).flatten
  | 0 => .nil
  | k + 1 => by
    rw [List.replicate_succ, List.replicate_succ, List.flatten_cons, List.flatten_cons]
    exact h.append (h.rep k)
theorem RpAll.dropLast {ds : List PyData} {vs : List V} (h : RpAll K Z vs ds) : RpAll K Z vs.dropLast ds.dropLast := by
  rw [List.dropLast_eq_take, List.dropLast_eq_take, h.length]
  exact h.take _
theorem RpAll.ints : ∀ (ns : List Int), RpAll K Z (ns.map V.int) (ns.map PyData.int)
  | [] => .nil
  | n :: ns => .cons (.int n) (RpAll.ints ns)
theorem RpAll.of_ints : ∀ (ns : List Int) {vs : List V}, RpAll K Z vs (ns.map PyData.int) → vs = ns.map V.int
  | [], _, h => by cases h; rfl
  | n :: ns, _, h => by
    cases h with
    | cons r t =>
      cases r
      rw [List.map_cons, RpAll.of_ints ns t]
end

/-- the heap without the source -/
def cl (S : Src) (H : Hp) : Hp := fun x => if inS S x then none else H x
theorem cl_some {S : Src} {H : Hp} {x : Addr} {o : HO} (h : cl S H x = some o) : H x = some o ∧ ¬ inS S x := by
  unfold cl at h
  split at h
  · cases h
  · exact ⟨h, by assumption⟩
theorem cl_of {S : Src} {H : Hp} {x : Addr} {o : HO} (h : H x = some o) (n : ¬ inS S x) : cl S H x = some o := by
  unfold cl
  rw [if_neg n]
  exact h

/-- the regions R (reserved), Z (lasting), S (the source) stand in H -/
structure Good (R Z : Hp) (S : Src) (H : Hp) : Prop where
  r : Same R H
  z : Same Z H
  s : SV S H
  rz : ∀ x o, R x = some o → Z x = none
  rs : ∀ x, inS S x → R x = none ∧ Z x = none
  tz : ∀ x xs, H x = some (.tup xs) → Z x = some (.tup xs)

def RSl (K : PySem.W.Frag) (Z : Hp) (S : Src) (H : Hp) (v : V) : Sl → Prop
  | .imm d => Rp K Z v d
  | .lst ds => ∃ a vs, v = .ref a ∧ H a = some (.lst vs) ∧ RpAll K Z vs ds
  | .dT kvs => ∃ a ws, v = .ref a ∧ H a = some (.dT ws) ∧ Paired (fun (p : List Key × V) (q : List Key × PyData) => p.1 = q.1 ∧ Rp K Z p.2 q.2) ws kvs
  | .dK kvs => ∃ a ws, v = .ref a ∧ H a = some (.dK ws) ∧ Paired (fun (p : Key × V) (q : Key × PyData) => p.1 = q.1 ∧ Rp K Z p.2 q.2) ws kvs
  | .fT kvs => ∃ a od ws, v = .ref a ∧ Z a = some (.frz od (.dT ws)) ∧ Paired (fun (p : List Key × V) (q : List Key × PyData) => p.1 = q.1 ∧ Rp K Z p.2 q.2) ws kvs
  | .fK kvs => ∃ a od ws, v = .ref a ∧ Z a = some (.frz od (.dK ws)) ∧ Paired (fun (p : Key × V) (q : Key × PyData) => p.1 = q.1 ∧ Rp K Z p.2 q.2) ws kvs
  | .src => ∃ a c, S = some (a, c) ∧ v = .ref a
  | .ft ds => ∃ a xs, v = .ref a ∧ FrzT Z a xs ds ∧ RpAll K Z xs ds
  | .scr ns => ∃ a, v = .ref a ∧ SqL K Z a (ns.map V.int)
/-- an owned thing lies outside the regions -/
def Out (R Z : Hp) (S : Src) (a : Addr) : Prop := R a = none ∧ Z a = none ∧ ¬ inS S a

structure SR (K : PySem.W.Frag) (R Z : Hp) (S : Src) (H : Hp) (σ : St) (env : Ev) : Prop where
  g : Good R Z S H
  len : env.length = σ.length
  sl : ∀ (i : Nat) (s : Sl), env[i]? = some (some s) → ∃ v : V, σ[i]? = some (some v) ∧ RSl K Z S H v s ∧ (s.own = true → ∀ a, v = .ref a → Out R Z S a)
  ds : ∀ (i j : Nat) (s t : Sl) (v : V), i ≠ j → env[i]? = some (some s) → env[j]? = some (some t) → s.own = true → t.own = true → σ[i]? = some (some v) → σ[j]? ≠ some (some v)

/-- a result beside the slots -/
structure Res (K : PySem.W.Frag) (R Z : Hp) (S : Src) (H : Hp) (σ : St) (env : Ev) (v : V) (s : Sl) : Prop where
  r : RSl K Z S H v s
  o : s.own = true → ∀ a, v = .ref a → Out R Z S a
  f : s.own = true → ∀ (i : Nat) (t : Sl), env[i]? = some (some t) → t.own = true → σ[i]? ≠ some (some v)

/-- data that is lasting, or a list of lasting data that is read as it stands now -/
def Bw (K : PySem.W.Frag) (Z : Hp) (S : Src) (H : Hp) (v : V) (d : PyData) : Prop :=
  Rp K Z v d ∨ ∃ a vs ds, v = .ref a ∧ d = .list ds ∧ H a = some (.lst vs) ∧ ¬ inS S a ∧ RpAll K Z vs ds
/-- all that is tracked stays, but the source -/
def Stay (S : Src) (H H' : Hp) : Prop := ∀ x o, H x = some o → ¬ inS S x → H' x = some o

abbrev ME := Ev → Tr (Sl × Ev)
abbrev MI := Ev → Tr (PyData × Ev)
abbrev MA := Ev → Tr (List PyData × Ev)
inductive Fl where
  | nx | bk | ct
  | rt (s : Sl)
abbrev MS := Ev → Tr (Fl × Ev)

/-- the readings by value; p: the expression leaves all that stands (but the source) -/
def RD (K : PySem.W.Frag) (p : Bool) (m : ME) : TE := fun σ H Q => ∃ R Z S env, SR K R Z S H σ env ∧ (m env).all fun y => ∀ v Z' H', Same Z Z' → (p = true → Stay S H H') → SR K R Z' S H' σ y.2 → Res K R Z' S H' σ y.2 v y.1 → Q v H'
def RI (K : PySem.W.Frag) (p : Bool) (m : MI) : TE := fun σ H Q => ∃ R Z S env, SR K R Z S H σ env ∧ (m env).all fun y => ∀ v Z' H', Same Z Z' → (p = true → Stay S H H') → SR K R Z' S H' σ y.2 → Rp K Z' v y.1 → Q v H'
/-- borrowed: data that is read in the heap as it is now -/
def RB (K : PySem.W.Frag) (p : Bool) (m : MI) : TE := fun σ H Q => ∃ R Z S env, SR K R Z S H σ env ∧ (m env).all fun y => ∀ v Z' H', Same Z Z' → (p = true → Stay S H H') → SR K R Z' S H' σ y.2 → Bw K Z' S H' v y.1 → Q v H'
def RA (K : PySem.W.Frag) (p : Bool) (m : MA) : TA := fun σ H Q => ∃ R Z S env, SR K R Z S H σ env ∧ (m env).all fun y => ∀ vs Z' H', Same Z Z' → (p = true → Stay S H H') → SR K R Z' S H' σ y.2 → RpAll K Z' vs y.1 → Q vs H'
def RT (K : PySem.W.Frag) (p : Bool) (m : Ev → Tr (Bool × Ev)) : TT := fun σ H Q => ∃ R Z S env, SR K R Z S H σ env ∧ (m env).all fun y => ∀ Z' H', Same Z Z' → (p = true → Stay S H H') → SR K R Z' S H' σ y.2 → Q y.1 H'
def RS (K : PySem.W.Frag) (m : MS) : TS := fun D σ H => ∃ R Z S env, SR K R Z S H σ env ∧ (m env).all fun y => ∀ σ' Z' H', Same Z Z' → SR K R Z' S H' σ' y.2 → match y.1 with
  | .nx => D.nx σ' H'
  | .bk => D.bk σ' H'
  | .ct => D.ct σ' H'
  | .rt s => ∀ v, Res K R Z' S H' [] [] v s → D.rt v H'

abbrev VE (X : Cx) (p : Bool) (e : Expr) (m : ME) : Prop := PE X e (RD X.K p m)
abbrev VI (X : Cx) (p : Bool) (e : Expr) (m : MI) : Prop := PE X e (RI X.K p m)
abbrev VB (X : Cx) (p : Bool) (e : Expr) (m : MI) : Prop := PE X e (RB X.K p m)
abbrev VA (X : Cx) (p : Bool) (es : List Expr) (m : MA) : Prop := PA X es (RA X.K p m)
abbrev VT (X : Cx) (p : Bool) (e : Expr) (m : Ev → Tr (Bool × Ev)) : Prop := PT X e (RT X.K p m)
abbrev VS (X : Cx) (st : Stmt) (m : MS) : Prop := PS X st (RS X.K m)
abbrev VSs (X : Cx) (st : List Stmt) (m : MS) : Prop := PSs X st (RS X.K m)

/-! ### weakening -/
section
variable {X : Cx} {e : Expr} {es : List Expr} {st : Stmt} {sts : List Stmt}
theorem pe_weak {t t' : TE} (h : PE X e t) (w : ∀ σ H Q, t' σ H Q → t σ H Q) : PE X e t' := ⟨fun pins s σ H Q I q => h.run pins s σ H Q I (w σ H Q q)⟩
theorem pt_weak {t t' : TT} (h : PT X e t) (w : ∀ σ H Q, t' σ H Q → t σ H Q) : PT X e t' := ⟨fun pins s σ H Q I q => h.run pins s σ H Q I (w σ H Q q)⟩
theorem pa_weak {t t' : TA} (h : PA X es t) (w : ∀ σ H Q, t' σ H Q → t σ H Q) : PA X es t' := ⟨fun pos pins s σ H Q I q => h.run pos pins s σ H Q I (w σ H Q q)⟩
theorem ps_weak {t t' : TS} (h : PS X st t) (w : ∀ D σ H, t' D σ H → t D σ H) : PS X st t' := ⟨fun pins s σ H D I q => h.run pins s σ H D I (w D σ H q)⟩
theorem pss_weak {t t' : TS} (h : PSs X sts t) (w : ∀ D σ H, t' D σ H → t D σ H) : PSs X sts t' := ⟨fun pins s σ H D I q => h.run pins s σ H D I (w D σ H q)⟩
end

/-! ### states -/
section
variable {K : PySem.W.Frag} {R Z Z' : Hp} {S : Src} {H H' : Hp} {σ : St} {env : Ev}
theorem Stay.refl : Stay S H H := fun _ _ h _ => h
theorem Stay.trans {H1 H2 : Hp} (a : Stay S H H1) (b : Stay S H1 H2) : Stay S H H2 := fun x o h n => b x o (a x o h n) n
theorem Stay.cl (a : Stay S H H') : Same (cl S H) (cl S H') := fun x o h => by
  obtain ⟨h1, h2⟩ := cl_some h
  exact cl_of (a x o h1 h2) h2
theorem Good.zcl (g : Good R Z S H) : Same Z (cl S H) := fun x o h => cl_of (g.z x o h) fun n => by
  rw [(g.rs x n).2] at h
  cases h
theorem Stay.new {p : Addr} {o : HO} (h : H p = none) : Stay S H (upd H p o) := fun x u e _ => by
  rw [upd_ne (ne_of_none e h)]
  exact e
theorem SV.new {p : Addr} {o : HO} (h : H p = none) (s : SV S H) : SV S (upd H p o) := by
  cases S with
  | none => trivial
  | some ac =>
    obtain ⟨n, l, m, t, cs, h1, h2⟩ := s
    exact ⟨n, l, m, t, cs, by rw [upd_ne (ne_of_none h1 h)]; exact h1, by rw [upd_ne (ne_of_none h2 h)]; exact h2⟩
theorem SV.there (s : SV S H) {x : Addr} (h : inS S x) : H x ≠ none := by
  cases S with
  | none => exact h.elim
  | some ac =>
    obtain ⟨n, l, m, t, cs, h1, h2⟩ := s
    rcases h with rfl | rfl
    · rw [h1]; simp
    · rw [h2]; simp
/-- a new object, not yet of any region -/
theorem Good.new {p : Addr} {o : HO} (g : Good R Z S H) (h : H p = none) (no : ∀ xs, o ≠ HO.tup xs := by intro _ z; cases z) : Good R Z S (upd H p o) :=
  ⟨fun x u e => by rw [upd_ne (ne_of_none (g.r x u e) h)]; exact g.r x u e, fun x u e => by rw [upd_ne (ne_of_none (g.z x u e) h)]; exact g.z x u e, g.s.new h, g.rz, g.rs, fun x xs e => by
    by_cases hx : x = p
    · subst hx; rw [upd_same] at e; exact absurd (Option.some.inj e) (no xs)
    · rw [upd_ne hx] at e; exact g.tz x xs e⟩
theorem Good.out {p : Addr} (g : Good R Z S H) (h : H p = none) : Out R Z S p := ⟨g.r.free h, g.z.free h, fun n => g.s.there n h⟩
theorem RSl.mono {v : V} {s : Sl} (e : Same Z Z') (h : ∀ a, v = .ref a → s.own = true → ∀ o, H a = some o → H' a = some o) (r : RSl K Z S H v s) : RSl K Z' S H' v s := by
  cases s with
  | imm d => exact Rp.mono e r
  | lst ds =>
    obtain ⟨a, vs, rfl, h1, h2⟩ := r
    exact ⟨a, vs, rfl, h a rfl rfl _ h1, h2.mono e⟩
  | dT kvs =>
    obtain ⟨a, ws, rfl, h1, h2⟩ := r
    exact ⟨a, ws, rfl, h a rfl rfl _ h1, L2.Paired.mapP h2 fun p q z => ⟨z.1, z.2.mono e⟩⟩
  | dK kvs =>
    obtain ⟨a, ws, rfl, h1, h2⟩ := r
    exact ⟨a, ws, rfl, h a rfl rfl _ h1, L2.Paired.mapP h2 fun p q z => ⟨z.1, z.2.mono e⟩⟩
  | fT kvs =>
    obtain ⟨a, od, ws, rfl, h1, h2⟩ := r
    exact ⟨a, od, ws, rfl, e _ _ h1, L2.Paired.mapP h2 fun p q z => ⟨z.1, z.2.mono e⟩⟩
  | fK kvs =>
    obtain ⟨a, od, ws, rfl, h1, h2⟩ := r
    exact ⟨a, od, ws, rfl, e _ _ h1, L2.Paired.mapP h2 fun p q z => ⟨z.1, z.2.mono e⟩⟩
  | src => exact r
  | ft ds =>
    obtain ⟨a, xs, rfl, h1, h2⟩ := r
    exact ⟨a, xs, rfl, h1.mono e, h2.mono e⟩
  | scr ns =>
    obtain ⟨a, rfl, h1⟩ := r
    exact ⟨a, rfl, Same.sql e h1⟩
theorem RSl.at {v : V} {s : Sl} (o : s.own = true) (r : RSl K Z S H v s) : ∃ a u, v = .ref a ∧ H a = some u ∧ Mut (some u) := by
  cases s with
  | imm d => cases o
  | src => cases o
  | fT _ => cases o
  | fK _ => cases o
  | ft _ => cases o
  | scr _ => cases o
  | lst ds =>
    obtain ⟨a, vs, rfl, h1, h2⟩ := r
    exact ⟨a, _, rfl, h1, trivial⟩
  | dT kvs =>
    obtain ⟨a, vs, rfl, h1, h2⟩ := r
    exact ⟨a, _, rfl, h1, trivial⟩
  | dK kvs =>
    obtain ⟨a, vs, rfl, h1, h2⟩ := r
    exact ⟨a, _, rfl, h1, trivial⟩
/-- all stays as it was and more is lasting: what was owned is not -/
theorem SR.stay (s : SR K R Z S H σ env) (g : Good R Z' S H') (e : Same Z Z') (st : Stay S H H') (nz : ∀ a, Out R Z S a → H a ≠ none → Z' a = none) : SR K R Z' S H' σ env where
  g := g
  len := s.len
  sl := fun i t h => by
    obtain ⟨v, h1, h2, h3⟩ := s.sl i t h
    refine ⟨v, h1, h2.mono e fun a ha ho o hH => st a o hH (h3 ho a ha).2.2, fun ho a ha => ?_⟩
    have q := h3 ho a ha
    obtain ⟨a', u, hv, hu, _⟩ := h2.at ho
    rw [ha] at hv
    cases hv
    exact ⟨q.1, nz a q (by rw [hu]; simp), q.2.2⟩
  ds := s.ds
theorem SR.new {p : Addr} {o : HO} (s : SR K R Z S H σ env) (h : H p = none) (no : ∀ xs, o ≠ HO.tup xs := by intro _ z; cases z) : SR K R Z S (upd H p o) σ env :=
  s.stay (s.g.new h no) (Same.refl Z) (Stay.new h) fun a q _ => q.2.1
/-- a new object that lasts -/
theorem Good.last {p : Addr} {o : HO} (g : Good R Z S H) (h : H p = none) : Good R (upd Z p o) S (upd H p o) := by
  have out := g.out h
  refine ⟨fun x u e => by rw [upd_ne (ne_of_none (g.r x u e) h)]; exact g.r x u e, fun x u e => ?_, g.s.new h, fun x u e => ?_, fun x n => ⟨(g.rs x n).1, ?_⟩, fun x xs e => ?_⟩
  · by_cases hx : x = p
    · subst hx; rw [upd_same] at e ⊢; exact e
    · rw [upd_ne hx] at e ⊢; exact g.z x u e
  · have hx : x ≠ p := fun z => by subst z; rw [out.1] at e; cases e
    rw [upd_ne hx]; exact g.rz x u e
  · have hx : x ≠ p := fun z => by subst z; exact out.2.2 n
    rw [upd_ne hx]; exact (g.rs x n).2
  · by_cases hx : x = p
    · subst hx; rw [upd_same] at e ⊢; exact e
    · rw [upd_ne hx] at e ⊢; exact g.tz x xs e
theorem Same.upd_new {p : Addr} {o : HO} (h : H p = none) : Same H (upd H p o) := fun x u e => by
  rw [upd_ne (ne_of_none e h)]; exact e
theorem SR.last {p : Addr} {o : HO} (s : SR K R Z S H σ env) (h : H p = none) : SR K R (upd Z p o) S (upd H p o) σ env :=
  s.stay (s.g.last h) (Same.upd_new (s.g.out h).2.1) (Stay.new h) fun a q ha => by
    have : a ≠ p := fun z => by subst z; exact ha h
    rw [upd_ne this]; exact q.2.1

/-- what a step that only makes new things leads to -/
structure Step (R Z : Hp) (S : Src) (H Z' H' : Hp) : Prop where
  g : Good R Z' S H'
  e : Same Z Z'
  st : Stay S H H'
  nz : ∀ a, Out R Z S a → H a ≠ none → Z' a = none
theorem Step.refl (g : Good R Z S H) : Step R Z S H Z H := ⟨g, Same.refl _, Stay.refl, fun _ q _ => q.2.1⟩
theorem Step.new {p : Addr} {o : HO} (g : Good R Z S H) (h : H p = none) (no : ∀ xs, o ≠ HO.tup xs := by intro _ z; cases z) : Step R Z S H Z (upd H p o) := ⟨g.new h no, Same.refl _, Stay.new h, fun _ q _ => q.2.1⟩
theorem Step.last {p : Addr} {o : HO} (g : Good R Z S H) (h : H p = none) : Step R Z S H (upd Z p o) (upd H p o) :=
  ⟨g.last h, Same.upd_new (g.out h).2.1, Stay.new h, fun a q ha => by
    have : a ≠ p := fun z => by subst z; exact ha h
    rw [upd_ne this]; exact q.2.1⟩
theorem SR.step (s : SR K R Z S H σ env) (t : Step R Z S H Z' H') : SR K R Z' S H' σ env := s.stay t.g t.e t.st t.nz
/-- the end of a step that gives s -/
def PR (K : PySem.W.Frag) (R Z : Hp) (S : Src) (H : Hp) (t : Tr Sl) (Q : VK) : Prop :=
  t.all fun s => ∀ v Z' H', Step R Z S H Z' H' → RSl K Z' S H' v s → (s.own = true → ∀ a, v = .ref a → H a = none ∧ Out R Z' S a) → Q v H'
theorem PR.imm {Q : VK} {d : PyData} {v : V} (h : PR K R Z S H (.ret (.imm d)) Q) (g : Good R Z S H) (r : Rp K Z v d) : Q v H :=
  h v Z H (Step.refl g) r fun z => nomatch z
theorem PR.newTup {Q : VK} {ds : List PyData} {vs : List V} (h : PR K R Z S H (.ret (.imm (.tuple ds))) Q) (g : Good R Z S H) (r : RpAll K Z vs ds) : TupNew H Q vs := fun p o hp hd => by
  have t := Step.last (o := .frz o (.tup vs)) g hp
  exact h (.ref p) _ _ t (.tup (TupZ.new hd) (r.mono t.e)) fun z => nomatch z
theorem PR.newLst {Q : VK} {ds : List PyData} {vs : List V} (h : PR K R Z S H (.ret (.lst ds)) Q) (g : Good R Z S H) (r : RpAll K Z vs ds) : ∀ p, H p = none → Q (.ref p) (upd H p (.lst vs)) := fun p hp => by
  have t := Step.new (o := .lst vs) g hp
  exact h (.ref p) _ _ t ⟨p, vs, rfl, upd_same, r⟩ fun _ a e => by cases e; exact ⟨hp, g.out hp⟩
theorem Bw.of {v : V} {d : PyData} (r : Rp K Z v d) : Bw K Z S H v d := .inl r
theorem Bw.stay {v : V} {d : PyData} (b : Bw K Z S H v d) (e : Same Z Z') (st : Stay S H H') : Bw K Z' S H' v d := by
  rcases b with b | ⟨a, vs, ds, h1, h2, h3, h4, h5⟩
  · exact .inl (b.mono e)
  · exact .inr ⟨a, vs, ds, h1, h2, st a _ h3 h4, h4, h5.mono e⟩
mutual
theorem Rp.dpH (e : Same Z H) : ∀ {d : PyData} {v : V}, Rp K Z v d → Dp K H v d := fun r => (r.mono e).dp
end
theorem Bw.dp {v : V} {d : PyData} (g : Good R Z S H) (b : Bw K Z S H v d) : Dp K H v d := by
  rcases b with b | ⟨a, vs, ds, rfl, rfl, h3, h4, h5⟩
  · exact (b.mono g.z).dp
  · exact .lst (.of h3) (h5.mono g.z).dp
/-- a borrowed list: where it stands -/
theorem Bw.list {v : V} {ds : List PyData} (g : Good R Z S H) (b : Bw K Z S H v (.list ds)) : ∃ a vs, v = .ref a ∧ H a = some (.lst vs) ∧ RpAll K Z vs ds := by
  rcases b with b | ⟨a, vs, es, rfl, e, h3, h4, h5⟩
  · cases b with
    | lst h q => exact ⟨_, _, rfl, g.z _ _ h, q⟩
  · cases e
    exact ⟨a, vs, rfl, h3, h5⟩
theorem Bw.tuple {v : V} {ds : List PyData} (g : Good R Z S H) (b : Bw K Z S H v (.tuple ds)) : ∃ a vs, v = .ref a ∧ SqT K H a vs ∧ RpAll K Z vs ds := by
  rcases b with b | ⟨a, vs, es, rfl, e, h3, h4, h5⟩
  · cases b with
    | tup h q => exact ⟨_, _, rfl, (h.mono g.z).sq, q⟩
  · cases e
theorem Bw.int {v : V} {i : Int} (b : Bw K Z S H v (.int i)) : v = .int i := by
  rcases b with b | ⟨a, vs, es, rfl, e, h3, h4, h5⟩
  · cases b; rfl
  · cases e
theorem Bw.bool {v : V} {i : Bool} (b : Bw K Z S H v (.bool i)) : v = .bl i := by
  rcases b with b | ⟨a, vs, es, rfl, e, h3, h4, h5⟩
  · cases b; rfl
  · cases e
theorem Bw.str {v : V} {i : Str} (b : Bw K Z S H v (.str i)) : v = .str i := by
  rcases b with b | ⟨a, vs, es, rfl, e, h3, h4, h5⟩
  · cases b; rfl
  · cases e
theorem Bw.none {v : V} (b : Bw K Z S H v .none) : v = .non := by
  rcases b with b | ⟨a, vs, es, rfl, e, h3, h4, h5⟩
  · cases b; rfl
  · cases e
/-- an owned list beside the slots is made lasting -/
theorem SR.freeze {a : Addr} {vs : List V} {ds : List PyData} (s : SR K R Z S H σ env) (ha : H a = some (.lst vs)) (o : Out R Z S a) (r : RpAll K Z vs ds)
    (f : ∀ (i : Nat) (t : Sl), env[i]? = some (some t) → t.own = true → σ[i]? ≠ some (some (.ref a))) :
    SR K R (upd Z a (.lst vs)) S H σ env ∧ Same Z (upd Z a (.lst vs)) ∧ Rp K (upd Z a (.lst vs)) (.ref a) (.list ds) := by
  have e : Same Z (upd Z a (.lst vs)) := Same.upd_new o.2.1
  refine ⟨⟨⟨s.g.r, fun x u h => ?_, s.g.s, fun x u h => ?_, fun x n => ⟨(s.g.rs x n).1, ?_⟩, fun x xs h => by
    have hx : x ≠ a := fun z => by subst z; rw [ha] at h; cases h
    rw [upd_ne hx]; exact s.g.tz x xs h⟩, s.len, fun i t h => ?_, s.ds⟩, e, .lst upd_same (r.mono e)⟩
  · by_cases hx : x = a
    · subst hx; rw [upd_same] at h; rw [← h]; exact ha
    · rw [upd_ne hx] at h; exact s.g.z x u h
  · have hx : x ≠ a := fun z => by subst z; rw [o.1] at h; cases h
    rw [upd_ne hx]; exact s.g.rz x u h
  · have hx : x ≠ a := fun z => by subst z; exact o.2.2 n
    rw [upd_ne hx]; exact (s.g.rs x n).2
  · obtain ⟨v, h1, h2, h3⟩ := s.sl i t h
    refine ⟨v, h1, h2.mono e fun _ _ _ _ q => q, fun ho b hb => ?_⟩
    have q := h3 ho b hb
    refine ⟨q.1, ?_, q.2.2⟩
    have hx : b ≠ a := fun z => by
      subst z
      rw [hb] at h1
      exact f i t h ho h1
    rw [upd_ne hx]; exact q.2.1
/-- a slot is forgotten, or holds what is no thing of its own -/
theorem SR.setFree {i : Nat} {v : V} {s : Sl} (q : SR K R Z S H σ env) (hs : s.own = false) (r : RSl K Z S H v s) : SR K R Z S H (σ.set i (some v)) (env.set i (some s)) where
  g := q.g
  len := by rw [List.length_set, List.length_set]; exact q.len
  sl := fun j t h => by
    by_cases hj : i = j
    · subst hj
      have hl : i < env.length := by
        have := List.getElem?_eq_some_iff.mp h
        simpa using this.1
      rw [List.getElem?_set_self hl] at h
      have e : s = t := Option.some.inj (Option.some.inj h)
      subst e
      refine ⟨v, ?_, r, fun z => ?_⟩
      · rw [List.getElem?_set_self (by rw [← q.len]; exact hl)]
      · rw [hs] at z; cases z
    · rw [List.getElem?_set_ne hj] at h
      obtain ⟨w, h1, h2⟩ := q.sl j t h
      exact ⟨w, by rw [List.getElem?_set_ne hj]; exact h1, h2⟩
  ds := fun j k t u w hjk h1 h2 o1 o2 e1 e2 => by
    by_cases hj : i = j
    · subst hj
      have hl : i < env.length := by
        have := List.getElem?_eq_some_iff.mp h1
        simpa using this.1
      rw [List.getElem?_set_self hl] at h1
      have e : s = t := Option.some.inj (Option.some.inj h1)
      subst e
      rw [hs] at o1; cases o1
    · by_cases hk : i = k
      · subst hk
        have hl : i < env.length := by
          have := List.getElem?_eq_some_iff.mp h2
          simpa using this.1
        rw [List.getElem?_set_self hl] at h2
        have e : s = u := Option.some.inj (Option.some.inj h2)
        subst e
        rw [hs] at o2; cases o2
      · rw [List.getElem?_set_ne hj] at h1 e1
        rw [List.getElem?_set_ne hk] at h2 e2
        exact q.ds j k t u w hjk h1 h2 o1 o2 e1 e2
/-- a result is stored -/
theorem SR.set {i : Nat} {v : V} {s : Sl} (q : SR K R Z S H σ env) (r : Res K R Z S H σ env v s) : SR K R Z S H (σ.set i (some v)) (env.set i (some s)) where
  g := q.g
  len := by rw [List.length_set, List.length_set]; exact q.len
  sl := fun j t h => by
    by_cases hj : i = j
    · subst hj
      have hl : i < env.length := by
        have := List.getElem?_eq_some_iff.mp h
        simpa using this.1
      rw [List.getElem?_set_self hl] at h
      have e : s = t := Option.some.inj (Option.some.inj h)
      subst e
      exact ⟨v, List.getElem?_set_self (by rw [← q.len]; exact hl), r.r, r.o⟩
    · rw [List.getElem?_set_ne hj] at h
      obtain ⟨w, h1, h2⟩ := q.sl j t h
      exact ⟨w, by rw [List.getElem?_set_ne hj]; exact h1, h2⟩
  ds := fun j k t u w hjk h1 h2 o1 o2 e1 e2 => by
    by_cases hj : i = j
    · subst hj
      have hl : i < env.length := by
        have := List.getElem?_eq_some_iff.mp h1
        simpa using this.1
      rw [List.getElem?_set_self hl] at h1
      rw [List.getElem?_set_self (by rw [← q.len]; exact hl)] at e1
      have e : s = t := Option.some.inj (Option.some.inj h1)
      have e' : v = w := Option.some.inj (Option.some.inj e1)
      subst e e'
      rw [List.getElem?_set_ne hjk] at h2 e2
      exact r.f o1 k u h2 o2 e2
    · by_cases hk : i = k
      · subst hk
        have hl : i < env.length := by
          have := List.getElem?_eq_some_iff.mp h2
          simpa using this.1
        rw [List.getElem?_set_self hl] at h2
        rw [List.getElem?_set_self (by rw [← q.len]; exact hl)] at e2
        have e : s = u := Option.some.inj (Option.some.inj h2)
        have e' : v = w := Option.some.inj (Option.some.inj e2)
        subst e e'
        rw [List.getElem?_set_ne hj] at h1 e1
        exact r.f o2 j t h1 o1 e1
      · rw [List.getElem?_set_ne hj] at h1 e1
        rw [List.getElem?_set_ne hk] at h2 e2
        exact q.ds j k t u w hjk h1 h2 o1 o2 e1 e2
/-- slots forgotten -/
theorem SR.drop {i : Nat} (q : SR K R Z S H σ env) : SR K R Z S H σ (env.set i none) where
  g := q.g
  len := by rw [List.length_set]; exact q.len
  sl := fun j t h => by
    by_cases hj : i = j
    · subst hj
      by_cases hl : i < env.length
      · rw [List.getElem?_set_self hl] at h; cases h
      · rw [List.getElem?_eq_none (by simpa using hl)] at h; cases h
    · rw [List.getElem?_set_ne hj] at h
      exact q.sl j t h
  ds := fun j k t u w hjk h1 h2 => by
    by_cases hj : i = j
    · subst hj
      by_cases hl : i < env.length
      · rw [List.getElem?_set_self hl] at h1; cases h1
      · rw [List.getElem?_eq_none (by simpa using hl)] at h1; cases h1
    · by_cases hk : i = k
      · subst hk
        by_cases hl : i < env.length
        · rw [List.getElem?_set_self hl] at h2; cases h2
        · rw [List.getElem?_eq_none (by simpa using hl)] at h2; cases h2
      · rw [List.getElem?_set_ne hj] at h1
        rw [List.getElem?_set_ne hk] at h2
        exact q.ds j k t u w hjk h1 h2
end
end PV

set_option Elab.async false
set_option linter.all false
set_option autoImplicit false
set_option maxRecDepth 100000
/-! PVf: rules for display, + and slice of tuples that tell the new tuple's object. -/
namespace PV
open PySem PySem.Spec L2 PyProof.Rows
section
variable {X : Cx} {es : List Expr} {t : TA} {pos : Pos}
def tTupF (t : TA) : TE := fun σ H Q => t σ H fun xs H' => xs.length ≤ sizeLine ∧ TupNew H' Q xs
theorem pe_tupF {x1} (h : PA X es t) : PE X (.Tuple es x1 pos) (tTupF t) := by
  refine ⟨fun pins s σ H Q I hq => ?_⟩
  refine wpAny_Tuple_spliced (thn (h.run pos pins s σ H _ I hq) fun us s1 ⟨xs, H1, I1, r, z, q⟩ => ⟨by rw [← r.length]; exact z, ?_⟩)
  have hf : H1 s1.heap.objs.size = none := I1.hok.fresh (Nat.le_refl _)
  refine ⟨.ref s1.heap.objs.size, upd H1 s1.heap.objs.size (.frz { cls := .type "tuple", data := .seq us.toArray } (.tup xs)), I1.laid (t' := s1.toks) (fun b u e => Heap.get?_push_of_some _ e) (Nat.le_refl _) ?_, rfl, q _ _ hf rfl⟩
  exact ⟨Heap.get?_push_size _ rfl, z, us, r, ⟨_, Heap.get?_push_size _ rfl, rfl, _, rfl⟩⟩
def rCatF (K : PySem.W.Frag) : R2 := fun x y H Q => ∃ a b xs ys, x = .ref a ∧ y = .ref b ∧ SqT K H a xs ∧ SqT K H b ys ∧ xs.length + ys.length ≤ sizeLine ∧
  (xs = [] → Q (.ref b) H) ∧ (xs ≠ [] → ys = [] → Q (.ref a) H) ∧ (xs ≠ [] → ys ≠ [] → TupNew H Q (xs ++ ys))
theorem op_catF : OpR X (binaryOp .Add) (rCatF X.K) := by
  intro pins s σ H x y v u Q I rx ry h
  obtain ⟨a, b, xs, ys, rfl, rfl, ha, hb, hz, q0, q1, q2⟩ := h
  cases rx
  cases ry
  obtain ⟨its, r1, p1, _⟩ := I.tuple ha
  obtain ⟨its2, r2, p2, _⟩ := I.tuple hb
  by_cases hx : xs = []
  · subst hx
    cases r1
    exact cat_tup0 p1 p2 ⟨.ref b, H, I, rfl, q0 rfl⟩
  · refine HT.cat_tup p1 p2 (fun z => hx (r1.nil_iff.mp z)) (fun z => ⟨.ref a, H, I, rfl, q1 hx (r2.nil_iff.mp z)⟩) (fun z => ?_) (by rw [← r1.length, ← r2.length]; exact hz)
    refine ⟨.ref s.heap.objs.size, _, I.laid (t' := s.toks) (o := .frz { cls := .type "tuple", data := .seq (its ++ its2).toArray } (.tup (xs ++ ys))) (fun b ob q => Heap.get?_push_of_some _ q) (Nat.le_refl _) ?_, rfl, q2 hx (fun w => z (r2.nil_iff.mpr w)) _ _ (I.hok.fresh (Nat.le_refl _)) rfl⟩
    exact ⟨Heap.get?_push_size _ rfl, by rw [List.length_append]; exact hz, _, r1.append r2, IsTup.new _ _⟩
def rSlF (K : PySem.W.Frag) : V → Option Int → Option Int → Hp → VK → Prop := fun x lo hi H Q => ∃ a xs, x = .ref a ∧ SqT K H a xs ∧
  (HT.sIx xs.length 0 lo = 0 ∧ HT.sIx xs.length xs.length hi = xs.length → Q (.ref a) H) ∧ (¬ (HT.sIx xs.length 0 lo = 0 ∧ HT.sIx xs.length xs.length hi = xs.length) → TupNew H Q (cutV xs lo hi))
theorem sl_tupF : SlR X (rSlF X.K) := by
  intro pins s σ H x v vl vu lo hi sl Q I rx hs pl pu h
  obtain ⟨a, xs, rfl, hx, q1, q2⟩ := h
  cases rx
  obtain ⟨its, r, ht, hz⟩ := I.tuple hx
  have hlen : its.toArray.size = xs.length := by rw [List.size_toArray]; exact r.length.symm
  refine ⟨"tuple", _, PyProof.Rows.slot_tuple_getitem.lookup, ht.typeIs, ?_⟩
  by_cases hw : HT.sIx xs.length 0 lo = 0 ∧ HT.sIx xs.length xs.length hi = xs.length
  · exact getItem_tuple_whole ht hs pl pu (by rw [hlen]; exact hw) ⟨.ref a, H, I, rfl, q1 hw⟩
  · refine HT.getItem_tuple_cut ht hs pl pu (by rw [hlen]; exact hw) ?_ (by rw [hlen]; exact hz)
    rw [hlen]
    refine ⟨.ref s.heap.objs.size, _, I.laid (t' := s.toks) (o := .frz { cls := .type "tuple", data := .seq ((its.drop (HT.sIx xs.length 0 lo)).take (HT.sIx xs.length xs.length hi - HT.sIx xs.length 0 lo)).toArray } (.tup (cutV xs lo hi))) (fun b ob q => Heap.get?_push_of_some _ q) (Nat.le_refl _) ?_, rfl, q2 hw _ _ (I.hok.fresh (Nat.le_refl _)) rfl⟩
    exact ⟨Heap.get?_push_size _ rfl, Nat.le_trans (cutV_length xs lo hi) hz, _, (r.drop (HT.sIx xs.length 0 lo)).take (HT.sIx xs.length xs.length hi - HT.sIx xs.length 0 lo), IsTup.new _ _⟩
end
section
variable {X : Cx} {e : Expr} {te : L2.St → Hp → (Int → Int → Hp → Prop) → Prop}
def tTupRgF (te : L2.St → Hp → (Int → Int → Hp → Prop) → Prop) : TE := fun σ H Q => te σ H fun a b H1 => RgOk a b ∧ TupNew H1 Q (rgV a b)
theorem pe_tupRgF {p pos : Pos} (hc : X.calm = true) (hg : Gl X "tuple") (hm : X.mg "tuple" = none) (he : PRg X e te) (na : starEach [e] X.env = (false, eval e X.env) :: starEach [] X.env := by rfl) : PE X (.Call (.Name "tuple" p) [e] [] pos) (tTupRgF te) := by
  refine ⟨fun pins s σ H Q I h => ?_⟩
  refine Call_ (ld_blt I hg hm boot_tuple (PyProof.Rows.callWith_type1 (args_cons (thn (he pins s σ H _ I h) fun x s1 ⟨r, a, b, t, u, v, H1, ex, hr, I1, ok, q⟩ => args_nil ?_) na) na))
  subst ex
  obtain ⟨b1, b2, b3, b4, b5⟩ := ok
  refine call_tuple_range (n := (b - a).toNat) (I1.ok.hd hc) hr (small_one b1 b2 b3 b4) (rangeSize_nat a b) b5 fun h' tk acc hk hi => ?_
  have I2 : Inv X pins σ H1 { s1 with heap := h', toks := tk } := I1.kept hk
  refine ⟨.ref h'.objs.size, upd H1 h'.objs.size (.frz { cls := .type "tuple", data := .seq acc } (.tup (rgV a b))), I2.laid (t' := tk) (fun c o e => Heap.get?_push_of_some _ e) (Nat.le_refl _) (show ObjOk X.prog X.w _ _ _ (.frz _ (.tup (rgV a b))) from ⟨Heap.get?_push_size _ rfl, ?_, acc.toList, vals_rg hi, ?_⟩), rfl, q _ _ (I2.hok.fresh (Nat.le_refl _)) rfl⟩
  · rw [rgV_length, sizeLine_eq]; omega
  · rw [Array.toArray_toList]; exact IsTup.new _ _
end
end PV

set_option Elab.async false
set_option linter.all false
set_option autoImplicit false
set_option maxRecDepth 100000
namespace PV
open PySem PySem.Spec L2

/-! ### names, constants -/
def slI : Sl → Tr PyData
  | .imm d => .ret d
  | .lst ds => .ret (.list ds)
  | .ft ds => .ret (.tuple ds)
  | _ => .bad
/-- a name's value; a list of its own is lasting from then on -/
def mVar (i : Nat) : MI := fun env => match env[i]? with
  | some (some (.imm d)) => .ret (d, env)
  | some (some (.lst ds)) => .ret (.list ds, env.set i (some (.imm (.list ds))))
  | some (some (.ft ds)) => .ret (.tuple ds, env)
  | _ => .bad
/-- the same, the slot stays -/
def mPeek (i : Nat) : MI := fun env => match env[i]? with
  | some (some (.imm d)) => .ret (d, env)
  | some (some (.lst ds)) => .ret (.list ds, env)
  | some (some (.ft ds)) => .ret (.tuple ds, env)
  | _ => .bad
/-- a name's value, handed on: the slot is empty then -/
def mMove (i : Nat) : ME := fun env => match env[i]? with
  | some (some s) => .ret (s, env.set i none)
  | _ => .bad
def mC (d : PyData) : MI := fun env => .ret (d, env)
/-- as a slot's value -/
def mE (m : MI) : ME := fun env => (m env).bind fun y => .ret (.imm y.1, y.2)
/-- made lasting -/
def mI (m : ME) : MI := fun env => (m env).bind fun y => (slI y.1).bind fun d => .ret (d, y.2)

section
variable {X : Cx} {e a b : Expr} {p q : Bool}
theorem rb_of_ri {K : PySem.W.Frag} {m : MI} {σ : St} {H : Hp} {Q : VK} (h : RB K p m σ H Q) : RI K p m σ H Q := by
  obtain ⟨R, Z, S, env, s, h⟩ := h
  exact ⟨R, Z, S, env, s, all_mono (fun y k v Z' H' e st s' r => k v Z' H' e st s' (.inl r)) h⟩
theorem vb_of {m : MI} (h : VI X p e m) : VB X p e m := pe_weak h fun σ H Q => rb_of_ri
theorem ve_of {m : MI} (h : VI X p e m) : VE X p e (mE m) := pe_weak h fun σ H Q ⟨R, Z, S, env, s, k⟩ => by
  refine ⟨R, Z, S, env, s, all_mono (fun y k v Z' H' e st s' r => ?_) (all_bind.mp k)⟩
  exact k v Z' H' e st s' ⟨r, (fun z => nomatch z), (fun z => nomatch z)⟩
/-- a result beside the slots is made lasting -/
theorem res_i {K : PySem.W.Frag} {R Z : Hp} {S : Src} {H : Hp} {σ : St} {env : Ev} {v : V} {s : Sl} {d : PyData} (q : SR K R Z S H σ env) (r : Res K R Z S H σ env v s) (h : slI s = .ret d) :
    ∃ Z', SR K R Z' S H σ env ∧ Same Z Z' ∧ Rp K Z' v d := by
  cases s with
  | imm e => cases h; exact ⟨Z, q, Same.refl Z, r.r⟩
  | lst ds =>
    cases h
    obtain ⟨a, vs, rfl, h1, h2⟩ := r.r
    obtain ⟨z1, z2, z3⟩ := q.freeze h1 (r.o rfl a rfl) h2 (r.f rfl)
    exact ⟨_, z1, z2, z3⟩
  | dT _ => cases h
  | dK _ => cases h
  | fT _ => cases h
  | fK _ => cases h
  | scr _ => cases h
  | ft ds =>
    cases h
    obtain ⟨a, xs, rfl, h1, h2⟩ := r.r
    exact ⟨Z, q, Same.refl Z, .tup h1 h2⟩
  | src => cases h
theorem slI_all {s : Sl} {P : PyData → Prop} (h : (slI s).all P) : ∃ d, slI s = .ret d ∧ P d := by
  cases s with
  | imm d => exact ⟨d, rfl, h⟩
  | lst ds => exact ⟨_, rfl, h⟩
  | dT _ => exact h.elim
  | dK _ => exact h.elim
  | fT _ => exact h.elim
  | fK _ => exact h.elim
  | ft ds => exact ⟨_, rfl, h⟩
  | scr _ => exact h.elim
  | src => exact h.elim
theorem vi_of {m : ME} (h : VE X p e m) : VI X p e (mI m) := pe_weak h fun σ H Q ⟨R, Z, S, env, s, k⟩ => by
  refine ⟨R, Z, S, env, s, all_mono (fun y k v Z' H' e st s' r => ?_) (all_bind.mp k)⟩
  obtain ⟨d, hd, k2⟩ := slI_all (all_bind.mp k)
  obtain ⟨Z2, s2, e2, r2⟩ := res_i s' r hd
  exact k2 v Z2 H' (e.trans e2) st s2 r2
theorem vi_C {v : V} {d : PyData} (h : PE X e (tC v)) (r : ∀ Z, Rp X.K Z v d) : VI X true e (mC d) := pe_weak h fun σ H Q ⟨R, Z, S, env, s, k⟩ => k v Z H (Same.refl Z) (fun _ => Stay.refl) s (r Z)
theorem vi_int {i j pos} : VI X true (.Constant (.int i) j pos) (mC (.int i)) := vi_C pe_int fun _ => .int i
theorem vi_bl {i j pos} : VI X true (.Constant (.bool i) j pos) (mC (.bool i)) := vi_C pe_bl fun _ => .bl i
theorem vi_non {j pos} : VI X true (.Constant .none j pos) (mC .none) := vi_C pe_non fun _ => .non
theorem vi_str {i j pos} : VI X true (.Constant (.str i) j pos) (mC (.str i)) := vi_C pe_str fun _ => .str i

theorem vi_var' {i : Nat} (h : PE X e (tVar i)) : VI X true e (mVar i) := pe_weak h fun σ H Q ⟨R, Z, S, env, s, k⟩ => by
  unfold mVar at k
  split at k
  · rename_i d hd
    obtain ⟨v, h1, h2, h3⟩ := s.sl i _ hd
    exact ⟨v, h1, k v Z H (Same.refl Z) (fun _ => Stay.refl) s h2⟩
  · rename_i ds hd
    obtain ⟨v, h1, h2, h3⟩ := s.sl i _ hd
    obtain ⟨a, vs, rfl, ha, hr⟩ := h2
    have sd := s.drop (i := i)
    obtain ⟨z1, z2, z3⟩ := sd.freeze ha (h3 rfl a rfl) hr fun j t hj ho q => by
      by_cases hij : i = j
      · subst hij
        have hl : i < env.length := (List.getElem?_eq_some_iff.mp hd).1
        rw [List.getElem?_set_self hl] at hj; cases hj
      · rw [List.getElem?_set_ne hij] at hj
        exact s.ds i j _ t (.ref a) hij hd hj rfl ho h1 q
    have z4 := z1.setFree (i := i) (v := .ref a) (s := .imm (.list ds)) rfl z3
    have e1 : σ.set i (some (.ref a)) = σ := by
      obtain ⟨hl, e⟩ := List.getElem?_eq_some_iff.mp h1
      rw [← e]; exact List.set_getElem_self hl
    have e2 : (env.set i none).set i (some (.imm (.list ds))) = env.set i (some (.imm (.list ds))) := List.set_set ..
    rw [e1, e2] at z4
    exact ⟨_, h1, k _ _ H z2 (fun _ => Stay.refl) z4 z3⟩
  · rename_i ds hd
    obtain ⟨v, h1, h2, h3⟩ := s.sl i _ hd
    obtain ⟨a, xs, rfl, f1, f2⟩ := h2
    exact ⟨_, h1, k _ Z H (Same.refl Z) (fun _ => Stay.refl) s (.tup f1 f2)⟩
  · exact k.elim
theorem vb_peek' {i : Nat} (h : PE X e (tVar i)) : VB X true e (mPeek i) := pe_weak h fun σ H Q ⟨R, Z, S, env, s, k⟩ => by
  unfold mPeek at k
  split at k
  · rename_i d hd
    obtain ⟨v, h1, h2, h3⟩ := s.sl i _ hd
    exact ⟨v, h1, k v Z H (Same.refl Z) (fun _ => Stay.refl) s (.inl h2)⟩
  · rename_i ds hd
    obtain ⟨v, h1, h2, h3⟩ := s.sl i _ hd
    obtain ⟨a, vs, rfl, ha, hr⟩ := h2
    exact ⟨_, h1, k _ Z H (Same.refl Z) (fun _ => Stay.refl) s (.inr ⟨a, vs, ds, rfl, rfl, ha, (h3 rfl a rfl).2.2, hr⟩)⟩
  · rename_i ds hd
    obtain ⟨v, h1, h2, h3⟩ := s.sl i _ hd
    obtain ⟨a, xs, rfl, f1, f2⟩ := h2
    exact ⟨_, h1, k _ Z H (Same.refl Z) (fun _ => Stay.refl) s (.inl (.tup f1 f2))⟩
  · exact k.elim
theorem ve_move' {i : Nat} (h : PE X e (tVar i)) : VE X true e (mMove i) := pe_weak h fun σ H Q ⟨R, Z, S, env, s, k⟩ => by
  unfold mMove at k
  split at k
  · rename_i t hd
    obtain ⟨v, h1, h2, h3⟩ := s.sl i _ hd
    refine ⟨v, h1, k v Z H (Same.refl Z) (fun _ => Stay.refl) s.drop ⟨h2, h3, fun ho j u hj hu q => ?_⟩⟩
    by_cases hij : i = j
    · subst hij
      have hl : i < env.length := (List.getElem?_eq_some_iff.mp hd).1
      rw [List.getElem?_set_self hl] at hj; cases hj
    · rw [List.getElem?_set_ne hij] at hj
      exact s.ds i j _ u v hij hd hj ho hu h1 q
  · exact k.elim
end

section
variable {X : Cx} {x : Str} {pos : Pos}
/-- the name that stands in slot i -/
theorem vi_var (i : Nat) (hN : X.N[i]? = some x := by rfl) (hv : Vis X.env.scope x := by first | exact Or.inl rfl | exact Or.inr (Or.inl rfl) | exact Or.inr (Or.inr rfl)) (hd : (x == ("__debug__" : Str)) = false := by decide)
    (hcd : (x == ("__classdict__" : Str)) = false := by decide) : VI X true (.Name x pos) (mVar i) := vi_var' (pe_var hN hv hd hcd)
theorem vb_peek (i : Nat) (hN : X.N[i]? = some x := by rfl) (hv : Vis X.env.scope x := by first | exact Or.inl rfl | exact Or.inr (Or.inl rfl) | exact Or.inr (Or.inr rfl)) (hd : (x == ("__debug__" : Str)) = false := by decide)
    (hcd : (x == ("__classdict__" : Str)) = false := by decide) : VB X true (.Name x pos) (mPeek i) := vb_peek' (pe_var hN hv hd hcd)
theorem ve_move (i : Nat) (hN : X.N[i]? = some x := by rfl) (hv : Vis X.env.scope x := by first | exact Or.inl rfl | exact Or.inr (Or.inl rfl) | exact Or.inr (Or.inr rfl)) (hd : (x == ("__debug__" : Str)) = false := by decide)
    (hcd : (x == ("__classdict__" : Str)) = false := by decide) : VE X true (.Name x pos) (mMove i) := ve_move' (pe_var hN hv hd hcd)
end

/-! ### operations by value -/
section
variable {K : PySem.W.Frag} {R Z Z' : Hp} {S : Src} {H H' : Hp} {σ : St} {env : Ev}
/-- from a step's end to the readings -/
theorem PR.rd {p : Bool} {Q : VK} {t : Tr Sl} {Z0 H0 : Hp} (s : SR K R Z S H σ env) (e : Same Z0 Z) (st : p = true → Stay S H0 H)
    (h : (t.bind fun r => Tr.ret (r, env)).all fun y => ∀ v Z' H', Same Z0 Z' → (p = true → Stay S H0 H') → SR K R Z' S H' σ y.2 → Res K R Z' S H' σ y.2 v y.1 → Q v H') : PR K R Z S H t Q := by
  refine all_mono (fun r k v Z' H' t hr ho => ?_) (all_bind.mp h)
  have s' := s.step t
  refine k v Z' H' (e.trans t.e) (fun hp => (st hp).trans t.st) s' ⟨hr, fun o a ha => (ho o a ha).2, fun o i u hi hu q => ?_⟩
  obtain ⟨w, h1, h2, h3⟩ := s.sl i u hi
  obtain ⟨a, ob, rfl, hob, _⟩ := h2.at hu
  rw [h1] at q
  have q' : V.ref a = v := Option.some.inj (Option.some.inj q)
  have := (ho o a q'.symm).1
  rw [this] at hob; cases hob
end

def OpV (X : Cx) (o : Value → Value → Sem Value) (f : PyData → PyData → Tr Sl) : Prop :=
  OpR X o fun x y H Q => ∃ R Z S d e, Good R Z S H ∧ Bw X.K Z S H x d ∧ Bw X.K Z S H y e ∧ PR X.K R Z S H (f d e) Q
def m2 (f : PyData → PyData → Tr Sl) (ma mb : MI) : ME := fun env => (ma env).bind fun x => (mb x.2).bind fun y => (f x.1 y.1).bind fun r => .ret (r, y.2)
section
variable {X : Cx} {a b c : Expr} {p q : Bool} {ma mb mc : MI} {f : PyData → PyData → Tr Sl} {pos : Pos}
/-- left lasting, right anything -/
theorem rd_two {σ : St} {H : Hp} {Q : VK} (h : RD X.K (p && q) (m2 f ma mb) σ H Q) :
    RI X.K p ma σ H fun x H1 => RB X.K q mb σ H1 fun y H2 => ∃ R Z S d e, Good R Z S H2 ∧ Bw X.K Z S H2 x d ∧ Bw X.K Z S H2 y e ∧ PR X.K R Z S H2 (f d e) Q := by
  obtain ⟨R, Z, S, env, s, k⟩ := h
  refine ⟨R, Z, S, env, s, all_mono (fun x k v1 Z1 H1 e1 st1 s1 r1 => ?_) (all_bind.mp k)⟩
  refine ⟨R, Z1, S, x.2, s1, all_mono (fun y k v2 Z2 H2 e2 st2 s2 r2 => ?_) (all_bind.mp k)⟩
  refine ⟨R, Z2, S, x.1, y.1, s2.g, .inl (r1.mono e2), r2, ?_⟩
  refine PR.rd (p := p && q) (Z0 := Z) (H0 := H) s2 (e1.trans e2) (fun hp => ?_) k
  simp only [Bool.and_eq_true] at hp
  exact (st1 hp.1).trans (st2 hp.2)
/-- left borrowed, right leaving all as it is -/
theorem rd_twoB {σ : St} {H : Hp} {Q : VK} (h : RD X.K p (m2 f ma mb) σ H Q) :
    RB X.K p ma σ H fun x H1 => RB X.K true mb σ H1 fun y H2 => ∃ R Z S d e, Good R Z S H2 ∧ Bw X.K Z S H2 x d ∧ Bw X.K Z S H2 y e ∧ PR X.K R Z S H2 (f d e) Q := by
  obtain ⟨R, Z, S, env, s, k⟩ := h
  refine ⟨R, Z, S, env, s, all_mono (fun x k v1 Z1 H1 e1 st1 s1 r1 => ?_) (all_bind.mp k)⟩
  refine ⟨R, Z1, S, x.2, s1, all_mono (fun y k v2 Z2 H2 e2 st2 s2 r2 => ?_) (all_bind.mp k)⟩
  refine ⟨R, Z2, S, x.1, y.1, s2.g, r1.stay e2 (st2 rfl), r2, ?_⟩
  exact PR.rd (p := p) (Z0 := Z) (H0 := H) s2 (e1.trans e2) (fun hp => (st1 hp).trans (st2 rfl)) k
theorem ve_op {op : Operator} (ho : OpV X (binaryOp op) f) (ha : VI X p a ma) (hb : VB X q b mb) : VE X (p && q) (.BinOp a op b pos) (m2 f ma mb) :=
  pe_weak (pe_op ho ha hb) fun σ H Q h => rd_two h
theorem ve_opB {op : Operator} (ho : OpV X (binaryOp op) f) (ha : VB X p a ma) (hb : VB X true b mb) : VE X p (.BinOp a op b pos) (m2 f ma mb) :=
  pe_weak (pe_op ho ha hb) fun σ H Q h => rd_twoB h
theorem ve_cmp {op : CmpOp} (ho : OpV X (compareOp op) f) (ha : VI X p a ma) (hb : VB X q b mb) (hm : behindInMarks op b = false) : VE X (p && q) (.Compare a [op] [b] pos) (m2 f ma mb) :=
  pe_weak (pe_cmpR ho ha hb hm) fun σ H Q h => rd_two h
theorem ve_cmpB {op : CmpOp} (ho : OpV X (compareOp op) f) (ha : VB X p a ma) (hb : VB X true b mb) (hm : behindInMarks op b = false) : VE X p (.Compare a [op] [b] pos) (m2 f ma mb) :=
  pe_weak (pe_cmpR ho ha hb hm) fun σ H Q h => rd_twoB h
end

def UnV (X : Cx) (o : Value → Sem Value) (f : PyData → Tr Sl) : Prop :=
  UnR X o fun x H Q => ∃ R Z S d, Good R Z S H ∧ Bw X.K Z S H x d ∧ PR X.K R Z S H (f d) Q
def m1 (f : PyData → Tr Sl) (ma : MI) : ME := fun env => (ma env).bind fun x => (f x.1).bind fun r => .ret (r, x.2)
section
variable {X : Cx} {a b c : Expr} {p q : Bool} {ma mb mc : MI} {f : PyData → Tr Sl} {pos : Pos}
theorem rd_one {σ : St} {H : Hp} {Q : VK} (h : RD X.K p (m1 f ma) σ H Q) :
    RB X.K p ma σ H fun x H1 => ∃ R Z S d, Good R Z S H1 ∧ Bw X.K Z S H1 x d ∧ PR X.K R Z S H1 (f d) Q := by
  obtain ⟨R, Z, S, env, s, k⟩ := h
  refine ⟨R, Z, S, env, s, all_mono (fun x k v1 Z1 H1 e1 st1 s1 r1 => ?_) (all_bind.mp k)⟩
  exact ⟨R, Z1, S, x.1, s1.g, r1, PR.rd (p := p) (Z0 := Z) (H0 := H) s1 e1 st1 k⟩
theorem ve_un {op : UnaryOp} (ho : UnV X (unaryOp op) f) (ha : VB X p a ma) : VE X p (.UnaryOp op a pos) (m1 f ma) :=
  pe_weak (pe_un ho ha) fun σ H Q h => rd_one h
end
end PV

set_option Elab.async false
set_option linter.all false
set_option autoImplicit false
set_option maxRecDepth 100000
/-! PV3: operations of data. -/
namespace PV
open PySem PySem.Spec L2

theorem line_of {n : Nat} (h : n ≤ 1000000) : n ≤ sizeLine := Nat.le_trans h (by decide)
theorem line_lt {n : Nat} (h : n < 1000000) : n < sizeLine := Nat.lt_of_lt_of_le h (by decide)
/-- a test that must hold -/
def ok {α : Type} (p : Prop) [Decidable p] (t : Tr α) : Tr α := if p then t else .bad
theorem ok_all {α : Type} {p : Prop} [Decidable p] {t : Tr α} {P : α → Prop} (h : (ok p t).all P) : p ∧ t.all P := by
  unfold ok at h
  split at h
  · exact ⟨by assumption, h⟩
  · exact h.elim
@[simp] theorem ok_pos {α : Type} {p : Prop} [Decidable p] {t : Tr α} (h : p) : ok p t = t := if_pos h

abbrev rI (d : PyData) : Tr Sl := .ret (.imm d)
abbrev rN (i : Int) : Tr Sl := .ret (.imm (.int i))
abbrev rB (b : Bool) : Tr Sl := .ret (.imm (.bool b))

def addD : PyData → PyData → Tr Sl
  | .int i, .int j => rN (i + j)
  | .int i, .bool b => rN (i + PyProof.Rows.b2i b)
  | .tuple xs, .tuple ys => ok (xs.length + ys.length ≤ 1000000) (rI (.tuple (xs ++ ys)))
  | .list xs, .list ys => ok (xs.length + ys.length ≤ 1000000) (.ret (.lst (xs ++ ys)))
  | .str a, .str b => ok (a.length + b.length ≤ 1000000) (rI (.str (a ++ b)))
  | _, _ => .bad
def subD : PyData → PyData → Tr Sl
  | .int i, .int j => rN (i - j)
  | _, _ => .bad
def smallI (i : Int) : Prop := -(2 ^ 64) < i ∧ i < 2 ^ 64
instance (i : Int) : Decidable (smallI i) := by unfold smallI; infer_instance
def mulD : PyData → PyData → Tr Sl
  | .int i, .int j => ok (smallI i ∨ smallI j) (rN (i * j))
  | .list xs, .int k => ok (k ≤ 1000000 ∧ -1000000 ≤ k ∧ xs.length * k.toNat ≤ 1000000) (.ret (.lst (List.replicate k.toNat xs).flatten))
  | _, _ => .bad
def fdivD : PyData → PyData → Tr Sl
  | .int i, .int j => ok (j ≠ 0 ∧ j.natAbs < 1073741824) (rN (i.fdiv j))
  | _, _ => .bad
def modD : PyData → PyData → Tr Sl
  | .int i, .int j => ok (j ≠ 0) (rN (i.fmod j))
  | _, _ => .bad
def powD : PyData → PyData → Tr Sl
  | .int i, .int j => ok (0 ≤ j ∧ j ≤ 1000000 ∧ i.natAbs < 2 ^ 64) (rN (i ^ j.toNat))
  | _, _ => .bad
def negD : PyData → Tr Sl
  | .int i => rN (-i)
  | _ => .bad
def cmpI (f : Int → Int → Bool) : PyData → PyData → Tr Sl
  | .int i, .int j => rB (f i j)
  | _, _ => .bad
def ltD : PyData → PyData → Tr Sl := cmpI fun i j => decide (i < j)
def leD : PyData → PyData → Tr Sl := cmpI fun i j => decide (i ≤ j)
def gtD : PyData → PyData → Tr Sl := cmpI fun i j => decide (j < i)
def geD : PyData → PyData → Tr Sl := cmpI fun i j => decide (j ≤ i)
def eqD (d e : PyData) : Tr Sl := match d, e with
  | .str a, .str b => rB (decide (a = b))
  | d, e => ok (SeqAt.shaped d = true ∧ SeqAt.shaped e = true) (rB (PyData.eqv d e))
def neD (d e : PyData) : Tr Sl := match d, e with
  | .str a, .str b => rB (!decide (a = b))
  | d, e => ok (SeqAt.shaped d = true ∧ SeqAt.shaped e = true) (rB (!PyData.eqv d e))
def isN : PyData → Bool
  | .none => true
  | _ => false
def isD (d e : PyData) : Tr Sl := ok (isN e = true) (rB (isN d))
def isntD (d e : PyData) : Tr Sl := ok (isN e = true) (rB (!isN d))

section
variable {X : Cx} {K : PySem.W.Frag} {R Z Z' : Hp} {S : Src} {H H' : Hp} {σ : St} {env : Ev}

theorem add_V : OpV X (binaryOp .Add) addD := by
  rintro pins s σ H x y v u Q I rx ry ⟨R, Z, S, d, e, g, bx, by_, h⟩
  cases d with
  | int i =>
    cases e with
    | int j => exact op_add pins s σ H x y v u Q I rx ry ⟨i, j, bx.int, by_.int, PR.imm h g (.int _)⟩
    | bool j => exact op_add_ib pins s σ H x y v u Q I rx ry ⟨i, j, bx.int, by_.bool, PR.imm h g (.int _)⟩
    | _ => exact h.elim
  | tuple xs =>
    cases e with
    | tuple ys =>
      obtain ⟨hz, h⟩ := ok_all h
      obtain ⟨a, vs, rfl, ha, ra⟩ := bx.tuple g
      obtain ⟨b, ws, rfl, hb, rb⟩ := by_.tuple g
      refine op_catF pins s σ H _ _ v u Q I rx ry ⟨a, b, vs, ws, rfl, rfl, ha, hb, line_of (by rw [ra.length, rb.length]; exact hz), fun z => ?_, fun _ z => ?_, fun _ _ => PR.newTup h g (ra.append rb)⟩
      · subst z
        cases ra
        refine PR.imm h g ?_
        rcases by_ with q | ⟨_, _, _, _, q, _⟩
        · exact q
        · cases q
      · subst z
        cases rb
        refine PR.imm h g ?_
        rw [List.append_nil]
        rcases bx with q | ⟨_, _, _, _, q, _⟩
        · exact q
        · cases q
    | _ => exact h.elim
  | list xs =>
    cases e with
    | list ys =>
      obtain ⟨hz, h⟩ := ok_all h
      obtain ⟨a, vs, rfl, ha, ra⟩ := bx.list g
      obtain ⟨b, ws, rfl, hb, rb⟩ := by_.list g
      exact op_cat pins s σ H _ _ v u Q I rx ry ⟨a, b, vs, ws, rfl, rfl, ha, hb, line_of (by rw [ra.length, rb.length]; exact hz), PR.newLst h g (ra.append rb)⟩
    | _ => exact h.elim
  | str x =>
    cases e with
    | str y =>
      obtain ⟨hz, h⟩ := ok_all h
      exact op_add_str pins s σ H _ _ v u Q I rx ry ⟨x, y, bx.str, by_.str, line_of hz, PR.imm h g (.str _)⟩
    | _ => exact h.elim
  | _ => exact h.elim
theorem sub_V : OpV X (binaryOp .Sub) subD := by
  rintro pins s σ H x y v u Q I rx ry ⟨R, Z, S, d, e, g, bx, by_, h⟩
  cases d with
  | int i =>
    cases e with
    | int j => exact op_sub pins s σ H x y v u Q I rx ry ⟨i, j, bx.int, by_.int, PR.imm h g (.int _)⟩
    | _ => exact h.elim
  | _ => exact h.elim
theorem mul_V : OpV X (binaryOp .Mult) mulD := by
  rintro pins s σ H x y v u Q I rx ry ⟨R, Z, S, d, e, g, bx, by_, h⟩
  cases d with
  | int i =>
    cases e with
    | int j =>
      obtain ⟨hz, h⟩ := ok_all h
      exact op_mul pins s σ H x y v u Q I rx ry ⟨i, j, bx.int, by_.int, hz, PR.imm h g (.int _)⟩
    | _ => exact h.elim
  | list xs =>
    cases e with
    | int k =>
      obtain ⟨⟨h1, h2, h3⟩, h⟩ := ok_all h
      obtain ⟨a, vs, rfl, ha, ra⟩ := bx.list g
      exact op_rep pins s σ H _ _ v u Q I rx ry ⟨a, k, vs, rfl, by_.int, ha, by omega, by omega, line_of (by rw [ra.length]; exact h3), PR.newLst h g (ra.rep _)⟩
    | _ => exact h.elim
  | _ => exact h.elim
theorem fdiv_V : OpV X (binaryOp .FloorDiv) fdivD := by
  rintro pins s σ H x y v u Q I rx ry ⟨R, Z, S, d, e, g, bx, by_, h⟩
  cases d with
  | int i =>
    cases e with
    | int j =>
      obtain ⟨hz, h⟩ := ok_all h
      exact op_fdivN pins s σ H x y v u Q I rx ry ⟨i, j, bx.int, by_.int, hz, PR.imm h g (.int _)⟩
    | _ => exact h.elim
  | _ => exact h.elim
theorem mod_V : OpV X (binaryOp .Mod) modD := by
  rintro pins s σ H x y v u Q I rx ry ⟨R, Z, S, d, e, g, bx, by_, h⟩
  cases d with
  | int i =>
    cases e with
    | int j =>
      obtain ⟨hz, h⟩ := ok_all h
      exact op_modN pins s σ H x y v u Q I rx ry ⟨i, j, bx.int, by_.int, hz, PR.imm h g (.int _)⟩
    | _ => exact h.elim
  | _ => exact h.elim
theorem pow_V : OpV X (binaryOp .Pow) powD := by
  rintro pins s σ H x y v u Q I rx ry ⟨R, Z, S, d, e, g, bx, by_, h⟩
  cases d with
  | int i =>
    cases e with
    | int j =>
      obtain ⟨hz, h⟩ := ok_all h
      exact op_pow pins s σ H x y v u Q I rx ry ⟨i, j, bx.int, by_.int, hz, PR.imm h g (.int _)⟩
    | _ => exact h.elim
  | _ => exact h.elim
theorem neg_V : UnV X (unaryOp .USub) negD := by
  rintro pins s σ H x v Q I rx ⟨R, Z, S, d, g, bx, h⟩
  cases d with
  | int i => exact un_neg pins s σ H x v Q I rx ⟨i, bx.int, PR.imm h g (.int _)⟩
  | _ => exact h.elim
theorem cmpI_V {o : CmpOp} {f : Int → Int → Bool} (ho : OpR X (compareOp o) (rI0 fun i j => .bl (f i j))) : OpV X (compareOp o) (cmpI f) := by
  rintro pins s σ H x y v u Q I rx ry ⟨R, Z, S, d, e, g, bx, by_, h⟩
  cases d with
  | int i =>
    cases e with
    | int j => exact ho pins s σ H x y v u Q I rx ry ⟨i, j, bx.int, by_.int, PR.imm h g (.bl _)⟩
    | _ => exact h.elim
  | _ => exact h.elim
theorem lt_V : OpV X (compareOp .Lt) ltD := cmpI_V op_lt
theorem le_V : OpV X (compareOp .LtE) leD := cmpI_V op_le
theorem gt_V : OpV X (compareOp .Gt) gtD := cmpI_V op_gt
theorem ge_V : OpV X (compareOp .GtE) geD := cmpI_V op_ge
theorem dec_str {a b : Str} : decide (V.str a = V.str b) = decide (a = b) := by
  by_cases h : a = b
  · simp [h]
  · have : ¬ V.str a = V.str b := fun e => h (V.str.inj e)
    simp [h]
theorem eq_V (hu : X.A.units + 64 < cLine) : OpV X (compareOp .Eq) eqD := by
  rintro pins s σ H x y v u Q I rx ry ⟨R, Z, S, d, e, g, bx, by_, h⟩
  unfold eqD at h
  split at h
  · refine op_eq pins s σ H x y v u Q I rx ry ?_
    rw [bx.str, by_.str]
    refine ⟨rfl, ?_⟩
    rw [dec_str]
    exact PR.imm h g (.bl _)
  · obtain ⟨⟨h1, h2⟩, h⟩ := ok_all h
    exact op_eqD hu pins s σ H x y v u Q I rx ry ⟨_, _, bx.dp g, by_.dp g, h1, h2, PR.imm h g (.bl _)⟩
theorem ne_V (hu : X.A.units + 64 < cLine) : OpV X (compareOp .NotEq) neD := by
  rintro pins s σ H x y v u Q I rx ry ⟨R, Z, S, d, e, g, bx, by_, h⟩
  unfold neD at h
  split at h
  · refine op_ne pins s σ H x y v u Q I rx ry ?_
    rw [bx.str, by_.str]
    refine ⟨rfl, ?_⟩
    rw [dec_str]
    exact PR.imm h g (.bl _)
  · obtain ⟨⟨h1, h2⟩, h⟩ := ok_all h
    exact op_neD hu pins s σ H x y v u Q I rx ry ⟨_, _, bx.dp g, by_.dp g, h1, h2, PR.imm h g (.bl _)⟩
theorem isN_of {v : V} {d : PyData} (b : Bw K Z S H v d) : decide (v = .non) = isN d := by
  rcases b with b | ⟨a, vs, es, rfl, rfl, h3, h4, h5⟩
  · cases b <;> rfl
  · rfl
theorem is_V : OpV X (compareOp .Is) isD := by
  rintro pins s σ H x y v u Q I rx ry ⟨R, Z, S, d, e, g, bx, by_, h⟩
  obtain ⟨h1, h⟩ := ok_all h
  have e0 : y = .non := of_decide_eq_true ((isN_of by_).trans h1)
  refine op_isN pins s σ H x y v u Q I rx ry ⟨e0, ?_⟩
  rw [isN_of bx]
  exact PR.imm h g (.bl _)
theorem isnt_V : OpV X (compareOp .IsNot) isntD := by
  rintro pins s σ H x y v u Q I rx ry ⟨R, Z, S, d, e, g, bx, by_, h⟩
  obtain ⟨h1, h⟩ := ok_all h
  have e0 : y = .non := of_decide_eq_true ((isN_of by_).trans h1)
  refine op_notN pins s σ H x y v u Q I rx ry ⟨e0, ?_⟩
  rw [isN_of bx]
  exact PR.imm h g (.bl _)
end
/-! ### tests -/
abbrev MT := Ev → Tr (Bool × Ev)
def bool? : PyData → Tr Bool
  | .bool b => .ret b
  | _ => .bad
def mT (m : MI) : MT := fun env => (m env).bind fun x => (bool? x.1).bind fun b => .ret (b, x.2)
def tAnd (a b : MT) : MT := fun env => (a env).bind fun x => if x.1 = true then b x.2 else .ret (false, x.2)
def tOr (a b : MT) : MT := fun env => (a env).bind fun x => if x.1 = true then .ret (true, x.2) else b x.2
def tNot (a : MT) : MT := fun env => (a env).bind fun x => .ret (!x.1, x.2)
def mIf (c : MT) (a b : ME) : ME := fun env => (c env).bind fun x => if x.1 = true then a x.2 else b x.2
def mIfI (c : MT) (a b : MI) : MI := fun env => (c env).bind fun x => if x.1 = true then a x.2 else b x.2
/-- a test as a value -/
def mB (c : MT) : MI := fun env => (c env).bind fun x => .ret (.bool x.1, x.2)
section
variable {X : Cx} {a b c e : Expr} {rest : List Expr} {p q r : Bool} {ma mb mc : MI} {ta tb tc : MT} {pos : Pos}
theorem bool?_all {d : PyData} {P : Bool → Prop} (h : (bool? d).all P) : ∃ b, d = .bool b ∧ P b := by
  cases d with
  | bool b => exact ⟨b, rfl, h⟩
  | _ => exact h.elim
theorem vt_val (h : VI X p e ma) (he : ∀ whole, isTrue e X.env whole = (do let v ← whole; standAt e.pos; holding [v] (truthy v)) := by intro _; rfl) : VT X p e (mT ma) :=
  pt_weak (pt_val h he) fun σ H Q ⟨R, Z, S, env, s, k⟩ => by
    refine ⟨R, Z, S, env, s, all_mono (fun y k v Z' H' e st s' r => ?_) (all_bind.mp k)⟩
    obtain ⟨b, hb, k⟩ := bool?_all (all_bind.mp k)
    have r' := r
    rw [hb] at r'
    cases r'
    exact ⟨b, rfl, k Z' H' e st s'⟩
theorem rt_of_rd {m : ME} {σ : L2.St} {H : Hp} {Q : Bool → Hp → Prop} {t : TE} (ht : ∀ Q', RD X.K p m σ H Q' → t σ H Q') (h : RT X.K p (mT (mI m)) σ H Q) : tTest t σ H Q := by
  refine ht _ ?_
  obtain ⟨R, Z, S, env, s, k⟩ := h
  refine ⟨R, Z, S, env, s, all_mono (fun y k v Z' H' e st s' r => ?_) (all_bind.mp (all_bind.mp k))⟩
  obtain ⟨d, hd, k⟩ := slI_all (all_bind.mp k)
  obtain ⟨b, hb, k⟩ := bool?_all (all_bind.mp k)
  obtain ⟨Z2, s2, e2, r2⟩ := res_i s' r hd
  have hb : d = .bool b := hb
  subst hb
  cases r2
  exact ⟨b, rfl, k Z2 H' (e.trans e2) st s2⟩
theorem vt_cmp {op : CmpOp} {f : PyData → PyData → Tr Sl} (ho : OpV X (compareOp op) f) (ha : VI X p a ma) (hb : VB X q b mb) (hm : behindInMarks op b = false) : VT X (p && q) (.Compare a [op] [b] pos) (mT (mI (m2 f ma mb))) :=
  pt_weak (pt_cmpR ho ha hb hm) fun σ H Q h => rt_of_rd (fun Q' h => rd_two h) h
theorem vt_cmpB {op : CmpOp} {f : PyData → PyData → Tr Sl} (ho : OpV X (compareOp op) f) (ha : VB X p a ma) (hb : VB X true b mb) (hm : behindInMarks op b = false) : VT X p (.Compare a [op] [b] pos) (mT (mI (m2 f ma mb))) :=
  pt_weak (pt_cmpR ho ha hb hm) fun σ H Q h => rt_of_rd (fun Q' h => rd_twoB h) h
theorem pt_not' (h : VT X p a ta) : VT X p (.UnaryOp .Not a pos) (tNot ta) := pt_weak (pt_not h) fun σ H Q ⟨R, Z, S, env, s, k⟩ => by
  exact ⟨R, Z, S, env, s, all_mono (fun y k Z' H' e st s' => k Z' H' e st s') (all_bind.mp k)⟩
abbrev VW (X : Cx) (p : Bool) (e : Expr) (m : MT) : Prop := PW X e (RT X.K p m)
theorem pw_weak {t t' : TT} (h : PW X e t) (w : ∀ σ H Q, t' σ H Q → t σ H Q) : PW X e t' := ⟨fun wh pins s σ H Q I q => h.run wh pins s σ H Q I (w σ H Q q)⟩
theorem vw_and1 (h : VT X p a ta) : VW X p (.BoolOp .And [a] pos) ta := pw_and1 h
theorem vw_or1 (h : VT X p a ta) : VW X p (.BoolOp .Or [a] pos) ta := pw_or1 h
theorem vw_and (h : VT X p a ta) (h2 : VW X q (.BoolOp .And (b :: rest) pos) tb) : VW X (p && q) (.BoolOp .And (a :: b :: rest) pos) (tAnd ta tb) :=
  pw_weak (pw_and h h2) fun σ H Q ⟨R, Z, S, env, s, k⟩ => by
    refine ⟨R, Z, S, env, s, all_mono (fun y k Z' H' e st s' => ?_) (all_bind.mp k)⟩
    dsimp only
    split
    · rename_i hc
      rw [if_pos hc] at k
      exact ⟨R, Z', S, y.2, s', all_mono (fun y' k' Z2 H2 e2 st2 s2 => k' Z2 H2 (e.trans e2) (fun hp => by
        simp only [Bool.and_eq_true] at hp
        exact (st hp.1).trans (st2 hp.2)) s2) k⟩
    · rename_i hc
      rw [if_neg hc] at k
      exact k Z' H' e (fun hp => by
        simp only [Bool.and_eq_true] at hp
        exact st hp.1) s'
theorem vw_or (h : VT X p a ta) (h2 : VW X q (.BoolOp .Or (b :: rest) pos) tb) : VW X (p && q) (.BoolOp .Or (a :: b :: rest) pos) (tOr ta tb) :=
  pw_weak (pw_or h h2) fun σ H Q ⟨R, Z, S, env, s, k⟩ => by
    refine ⟨R, Z, S, env, s, all_mono (fun y k Z' H' e st s' => ?_) (all_bind.mp k)⟩
    dsimp only
    split
    · rename_i hc
      rw [if_pos hc] at k
      exact k Z' H' e (fun hp => by
        simp only [Bool.and_eq_true] at hp
        exact st hp.1) s'
    · rename_i hc
      rw [if_neg hc] at k
      exact ⟨R, Z', S, y.2, s', all_mono (fun y' k' Z2 H2 e2 st2 s2 => k' Z2 H2 (e.trans e2) (fun hp => by
        simp only [Bool.and_eq_true] at hp
        exact (st hp.1).trans (st2 hp.2)) s2) k⟩
theorem vt_w (h : VW X p e ta) : VT X p e ta := h.pt
theorem ve_if {me mf : ME} (hc : VT X p c ta) (ha : VE X q a me) (hb : VE X r b mf) : VE X (p && (q && r)) (.IfExp c a b pos) (mIf ta me mf) :=
  pe_weak (pe_ifExp hc ha hb) fun σ H Q ⟨R, Z, S, env, s, k⟩ => by
    refine ⟨R, Z, S, env, s, all_mono (fun y k Z' H' e st s' => ?_) (all_bind.mp k)⟩
    dsimp only
    split
    · rename_i hc
      rw [if_pos hc] at k
      exact ⟨R, Z', S, y.2, s', all_mono (fun y' k' v Z2 H2 e2 st2 s2 r2 => k' v Z2 H2 (e.trans e2) (fun hp => by
        simp only [Bool.and_eq_true] at hp
        exact (st hp.1).trans (st2 hp.2.1)) s2 r2) k⟩
    · rename_i hc
      rw [if_neg hc] at k
      exact ⟨R, Z', S, y.2, s', all_mono (fun y' k' v Z2 H2 e2 st2 s2 r2 => k' v Z2 H2 (e.trans e2) (fun hp => by
        simp only [Bool.and_eq_true] at hp
        exact (st hp.1).trans (st2 hp.2.2)) s2 r2) k⟩
/-- and, or, not as values: bools all -/
def vAnd (a b : MI) : MI := fun env => (a env).bind fun x => (bool? x.1).bind fun k => if k = true then b x.2 else .ret (.bool false, x.2)
def vOr (a b : MI) : MI := fun env => (a env).bind fun x => (bool? x.1).bind fun k => if k = true then .ret (.bool true, x.2) else b x.2
def vNot (a : MI) : MI := fun env => (a env).bind fun x => (bool? x.1).bind fun k => .ret (.bool (!k), x.2)
theorem vi_one {op : BoolOp} (h : VI X p a ma) : VI X p (.BoolOp op [a] pos) ma := pe_one h
theorem vi_and (h : VI X p a ma) (h2 : VI X q (.BoolOp .And (b :: rest) pos) mb) : VI X (p && q) (.BoolOp .And (a :: b :: rest) pos) (vAnd ma mb) :=
  pe_weak (pe_and h h2) fun σ H Q ⟨R, Z, S, env, s, k⟩ => by
    refine ⟨R, Z, S, env, s, all_mono (fun y k v Z' H' e st s' r' => ?_) (all_bind.mp k)⟩
    obtain ⟨b, hb, k⟩ := bool?_all (all_bind.mp k)
    rw [hb] at r'
    cases r'
    refine ⟨b, rfl, ?_⟩
    split
    · rename_i hc
      rw [if_pos hc] at k
      exact ⟨R, Z', S, y.2, s', all_mono (fun y' k' v Z2 H2 e2 st2 s2 r2 => k' v Z2 H2 (e.trans e2) (fun hp => by
        simp only [Bool.and_eq_true] at hp
        exact (st hp.1).trans (st2 hp.2)) s2 r2) k⟩
    · rename_i hc
      rw [if_neg hc] at k
      exact k _ Z' H' e (fun hp => by
        simp only [Bool.and_eq_true] at hp
        exact st hp.1) s' (.bl false)
theorem vi_or (h : VI X p a ma) (h2 : VI X q (.BoolOp .Or (b :: rest) pos) mb) : VI X (p && q) (.BoolOp .Or (a :: b :: rest) pos) (vOr ma mb) :=
  pe_weak (pe_or h h2) fun σ H Q ⟨R, Z, S, env, s, k⟩ => by
    refine ⟨R, Z, S, env, s, all_mono (fun y k v Z' H' e st s' r' => ?_) (all_bind.mp k)⟩
    obtain ⟨b, hb, k⟩ := bool?_all (all_bind.mp k)
    rw [hb] at r'
    cases r'
    refine ⟨b, rfl, ?_⟩
    split
    · rename_i hc
      rw [if_pos hc] at k
      exact k _ Z' H' e (fun hp => by
        simp only [Bool.and_eq_true] at hp
        exact st hp.1) s' (.bl true)
    · rename_i hc
      rw [if_neg hc] at k
      exact ⟨R, Z', S, y.2, s', all_mono (fun y' k' v Z2 H2 e2 st2 s2 r2 => k' v Z2 H2 (e.trans e2) (fun hp => by
        simp only [Bool.and_eq_true] at hp
        exact (st hp.1).trans (st2 hp.2)) s2 r2) k⟩
theorem vi_not (h : VI X p a ma) : VI X p (.UnaryOp .Not a pos) (vNot ma) :=
  pe_weak (pe_not h) fun σ H Q ⟨R, Z, S, env, s, k⟩ => by
    refine ⟨R, Z, S, env, s, all_mono (fun y k v Z' H' e st s' r' => ?_) (all_bind.mp k)⟩
    obtain ⟨b, hb, k⟩ := bool?_all (all_bind.mp k)
    rw [hb] at r'
    cases r'
    exact ⟨b, rfl, k _ Z' H' e st s' (.bl _)⟩
end
end PV

set_option Elab.async false
set_option linter.all false
set_option autoImplicit false
set_option maxRecDepth 100000
/-! PV4: argument lists, displays, subscripts, slices, built-ins. -/
namespace PV
open PySem PySem.Spec L2

/-! ### argument lists and displays -/
def aNil : MA := fun env => .ret ([], env)
def aCons (a : MI) (r : MA) : MA := fun env => (a env).bind fun x => (r x.2).bind fun xs => .ret (x.1 :: xs.1, xs.2)
def mTup (a : MA) : ME := fun env => (a env).bind fun x => ok (x.1.length ≤ 1000000) (.ret (.imm (.tuple x.1), x.2))
def mLst (a : MA) : ME := fun env => (a env).bind fun x => ok (x.1.length ≤ 1000000) (.ret (.lst x.1, x.2))
def mA (g : List PyData → Tr Sl) (a : MA) : ME := fun env => (a env).bind fun x => (g x.1).bind fun r => .ret (r, x.2)
section
variable {X : Cx} {a b c e : Expr} {es : List Expr} {p q r : Bool} {ma mb mc : MI} {mas : MA} {pos : Pos}
theorem va_nil : VA X true [] aNil := pa_weak pa_nil fun σ H Q ⟨R, Z, S, env, s, k⟩ => k [] Z H (Same.refl Z) (fun _ => Stay.refl) s .nil
theorem va_cons (ha : VI X p e ma) (hr : VA X q es mas) (hs : starEach (e :: es) X.env = (false, eval e X.env) :: starEach es X.env := by rfl) : VA X (p && q) (e :: es) (aCons ma mas) :=
  pa_weak (pa_cons ha hr hs) fun σ H Q ⟨R, Z, S, env, s, k⟩ => by
    refine ⟨R, Z, S, env, s, all_mono (fun y k v Z' H' e st s' r => ?_) (all_bind.mp k)⟩
    refine ⟨R, Z', S, y.2, s', all_mono (fun y' k' vs Z2 H2 e2 st2 s2 r2 => ?_) (all_bind.mp k)⟩
    refine k' (v :: vs) Z2 H2 (e.trans e2) (fun hp => ?_) s2 (.cons (r.mono e2) r2)
    simp only [Bool.and_eq_true] at hp
    exact (st hp.1).trans (st2 hp.2)
theorem ve_tup {x1} (h : VA X p es mas) : VE X p (.Tuple es x1 pos) (mTup mas) :=
  pe_weak (pe_tupF h) fun σ H Q ⟨R, Z, S, env, s, k⟩ => by
    refine ⟨R, Z, S, env, s, all_mono (fun y k vs Z' H' e st s' r => ?_) (all_bind.mp k)⟩
    obtain ⟨hz, k⟩ := ok_all k
    refine ⟨line_of (by rw [r.length]; exact hz), fun pp o hp hd => ?_⟩
    have t := Step.last (o := .frz o (.tup vs)) s'.g hp
    exact k (.ref pp) _ _ (e.trans t.e) (fun hh => (st hh).trans t.st) (s'.step t) ⟨.tup (TupZ.new hd) (r.mono t.e), (fun z => nomatch z), (fun z => nomatch z)⟩
theorem ve_lst (h : VA X p es mas) : VE X p (.List es pos) (mLst mas) :=
  pe_weak (pe_lst h) fun σ H Q ⟨R, Z, S, env, s, k⟩ => by
    refine ⟨R, Z, S, env, s, all_mono (fun y k vs Z' H' e st s' r => ?_) (all_bind.mp k)⟩
    obtain ⟨hz, k⟩ := ok_all k
    refine ⟨line_of (by rw [r.length]; exact hz), fun pp hp => ?_⟩
    have t := Step.new (o := .lst vs) s'.g hp
    refine k (.ref pp) _ _ (e.trans t.e) (fun hh => (st hh).trans t.st) (s'.step t) ⟨⟨pp, vs, rfl, upd_same, r⟩, fun _ b hb => ?_, fun _ i u hi hu q => ?_⟩
    · cases hb; exact s'.g.out hp
    · obtain ⟨w, h1, h2, h3⟩ := s'.sl i u hi
      rw [h1] at q
      have e1 : w = .ref pp := Option.some.inj (Option.some.inj q)
      obtain ⟨b, ob, e2, hob, _⟩ := h2.at hu
      rw [e1] at e2
      cases e2
      rw [hp] at hob; cases hob
end

/-! ### calls of built-ins, by value -/
def CallV1 (X : Cx) (f : Value) (g : PyData → Tr Sl) : Prop := CallR X f fun xs H Q => ∃ R Z S v d, xs = [v] ∧ Good R Z S H ∧ Bw X.K Z S H v d ∧ PR X.K R Z S H (g d) Q
def CallV (X : Cx) (f : Value) (g : List PyData → Tr Sl) : Prop := CallR X f fun xs H Q => ∃ R Z S ds, Good R Z S H ∧ RpAll X.K Z xs ds ∧ PR X.K R Z S H (g ds) Q
section
variable {X : Cx} {x : Str} {id T : String} {a b c e : Expr} {es : List Expr} {p q r : Bool} {ma mb mc : MI} {mas : MA} {pos ps : Pos} {g : PyData → Tr Sl} {gs : List PyData → Tr Sl}
theorem ta_one {f : V → Hp → VK → Prop} {σ : St} {H : Hp} {Q : VK} (h : RD X.K p (m1 g ma) σ H Q) :
    tCons (RB X.K p ma) tNil σ H fun vs H1 => ∃ R Z S v d, vs = [v] ∧ Good R Z S H1 ∧ Bw X.K Z S H1 v d ∧ PR X.K R Z S H1 (g d) Q := by
  obtain ⟨R, Z, S, env, s, k⟩ := h
  refine ⟨R, Z, S, env, s, all_mono (fun x k v1 Z1 H1 e1 st1 s1 r1 => ?_) (all_bind.mp k)⟩
  exact ⟨R, Z1, S, v1, x.1, rfl, s1.g, r1, PR.rd (p := p) (Z0 := Z) (H0 := H) s1 e1 st1 k⟩
theorem ve_call1 (hc : CallV1 X (.builtin id) g) (hg : Gl X x) (hm : X.mg x = none) (hv : bootBuiltins x = some (.builtin id)) (ha : VB X p e ma) (hn : x ≠ "__name__" := by decide) (hdb : (x == ("__debug__" : Str)) = false := by decide)
    (he : starEach [e] X.env = (false, eval e X.env) :: starEach [] X.env := by rfl) (hpl : (backTo pos (starEach [] X.env)).any (·.1) = false := by rfl) : VE X p (.Call (.Name x ps) [e] [] pos) (m1 g ma) :=
  pe_weak (pe_callB hc hg hm hv (pa_cons ha pa_nil he) hn hdb he hpl) fun σ H Q h => ta_one (f := fun _ _ _ => True) h
theorem ve_callT1 (hc : CallV1 X (.type T) g) (hg : Gl X x) (hm : X.mg x = none) (hv : bootBuiltins x = some (.type T)) (ha : VB X p e ma) (hn : x ≠ "__name__" := by decide) (hdb : (x == ("__debug__" : Str)) = false := by decide)
    (he : starEach [e] X.env = (false, eval e X.env) :: starEach [] X.env := by rfl) (hpl : (backTo pos (starEach [] X.env)).any (·.1) = false := by rfl) : VE X p (.Call (.Name x ps) [e] [] pos) (m1 g ma) :=
  pe_weak (pe_callTy hc hg hm hv (pa_cons ha pa_nil he) hn hdb he hpl) fun σ H Q h => ta_one (f := fun _ _ _ => True) h
theorem ta_all {σ : St} {H : Hp} {Q : VK} (h : RD X.K p (mA gs mas) σ H Q) :
    RA X.K p mas σ H fun vs H1 => ∃ R Z S ds, Good R Z S H1 ∧ RpAll X.K Z vs ds ∧ PR X.K R Z S H1 (gs ds) Q := by
  obtain ⟨R, Z, S, env, s, k⟩ := h
  refine ⟨R, Z, S, env, s, all_mono (fun x k v1 Z1 H1 e1 st1 s1 r1 => ?_) (all_bind.mp k)⟩
  exact ⟨R, Z1, S, x.1, s1.g, r1, PR.rd (p := p) (Z0 := Z) (H0 := H) s1 e1 st1 k⟩
theorem ve_callN (hc : CallV X (.builtin id) gs) (hg : Gl X x) (hm : X.mg x = none) (hv : bootBuiltins x = some (.builtin id)) (ha : VA X p (e :: es) mas) (hn : x ≠ "__name__" := by decide) (hdb : (x == ("__debug__" : Str)) = false := by decide)
    (he : starEach (e :: es) X.env = (false, eval e X.env) :: starEach es X.env := by rfl) (hpl : (backTo pos (starEach es X.env)).any (·.1) = false := by rfl) : VE X p (.Call (.Name x ps) (e :: es) [] pos) (mA gs mas) :=
  pe_weak (pe_callB hc hg hm hv ha hn hdb he hpl) fun σ H Q h => ta_all h
end

def lenD : PyData → Tr Sl
  | .tuple xs => rN xs.length
  | .list xs => rN xs.length
  | .str x => ok (x.length ≤ 1000000) (rN x.length)
  | _ => .bad
def absD : PyData → Tr Sl
  | .int i => rN (if i < 0 then -i else i)
  | _ => .bad
def intD : PyData → Tr Sl
  | .int i => rN i
  | .bool b => rN (if b = true then 1 else 0)
  | _ => .bad
def tupleD : PyData → Tr Sl
  | .tuple xs => rI (.tuple xs)
  | .list xs => .ret (if frzOk xs = true then .ft xs else .imm (.tuple xs))
  | _ => .bad
def listD : PyData → Tr Sl
  | .tuple xs => .ret (.lst xs)
  | .list xs => .ret (.lst xs)
  | _ => .bad
def maxD : List PyData → Tr Sl
  | [.int i, .int j] => rN (if j > i then j else i)
  | _ => .bad
def minD : List PyData → Tr Sl
  | [.int i, .int j] => rN (if j < i then j else i)
  | _ => .bad
section
variable {X : Cx} {K : PySem.W.Frag} {R Z Z' : Hp} {S : Src} {H H' : Hp} {σ : St} {env : Ev}
theorem len_V : CallV1 X (.builtin "len") lenD := by
  rintro pins s σ H xs us Q I r ⟨R, Z, S, v, d, rfl, g, b, h⟩
  cases d with
  | tuple ds =>
    obtain ⟨a, vs, rfl, ha, ra⟩ := b.tuple g
    refine call_len_seq pins s σ H _ us Q I r ⟨a, vs, rfl, .inr ha, ?_⟩
    rw [ra.length]
    exact PR.imm h g (.int _)
  | list ds =>
    obtain ⟨a, vs, rfl, ha, ra⟩ := b.list g
    refine call_len_seq pins s σ H _ us Q I r ⟨a, vs, rfl, .inl (.of ha), ?_⟩
    rw [ra.length]
    exact PR.imm h g (.int _)
  | str x =>
    obtain ⟨hz, h⟩ := ok_all h
    exact call_len_str pins s σ H _ us Q I r ⟨x, by rw [b.str], line_of hz, PR.imm h g (.int _)⟩
  | _ => exact h.elim
theorem abs_V : CallV1 X (.builtin "abs") absD := by
  rintro pins s σ H xs us Q I r ⟨R, Z, S, v, d, rfl, g, b, h⟩
  cases d with
  | int i => exact call_abs pins s σ H _ us Q I r ⟨i, by rw [b.int], PR.imm h g (.int _)⟩
  | _ => exact h.elim
theorem int_V : CallV1 X (.type "int") intD := by
  rintro pins s σ H xs us Q I r ⟨R, Z, S, v, d, rfl, g, b, h⟩
  cases d with
  | int i => exact call_int1 pins s σ H _ us Q I r (.inl ⟨i, by rw [b.int], PR.imm h g (.int _)⟩)
  | bool i => exact call_int1 pins s σ H _ us Q I r (.inr ⟨i, by rw [b.bool], PR.imm h g (.int _)⟩)
  | _ => exact h.elim
theorem call_tuple_frz : CallR X (.type "tuple") (fun xs H Q => ∃ p ys, xs = [.ref p] ∧ SqL X.K H p ys ∧ ∀ l o, H l = none → o.dict = none → Q (.ref l) (upd H l (.frz o (.tup ys)))) := by
  intro pins s σ H xs us Q I r h
  obtain ⟨p, ys, rfl, hq, q⟩ := h
  obtain ⟨u, rfl, rx⟩ := vals1 r
  cases rx
  obtain ⟨its, r', pl, hz⟩ := I.list hq
  have hlen := r'.length
  refine call_tuple_list pl.isList (fun h' kp => ?_) (by simp only [List.size_toArray] <;> omega)
  have I1 : Inv X pins σ H { s with heap := h' } := I.kept (t' := s.toks) kp
  have I2 : Inv X pins σ (upd H h'.objs.size (.frz { cls := .type "tuple", data := .seq its.toArray } (.tup ys))) { s with heap := h'.push { cls := .type "tuple", data := .seq its.toArray } } :=
    I1.laid (t' := s.toks) (fun b o e => Heap.get?_push_of_some _ e) (Nat.le_refl _) (show ObjOk X.prog X.w _ _ _ (.frz _ (.tup ys)) from ⟨Heap.get?_push_size _ rfl, hz, its, r', PyProof.Rows.IsTup.new _ _⟩)
  exact ⟨.ref h'.objs.size, _, I2, rfl, q _ _ (I1.hok.fresh (Nat.le_refl _)) rfl⟩
theorem PR.newFrz {Q : VK} {ds : List PyData} {vs : List V} (h : PR X.K R Z S H (.ret (.ft ds)) Q) (g : Good R Z S H) (f : frzOk ds = true) (r : RpAll X.K Z vs ds) : ∀ p o, H p = none → o.dict = none → Q (.ref p) (upd H p (.frz o (.tup vs))) := fun p o hp hd => by
  have t := Step.last (o := .frz o (.tup vs)) g hp
  exact h (.ref p) _ _ t ⟨p, vs, rfl, ⟨f, o, upd_same, hd⟩, r.mono t.e⟩ fun z => nomatch z
theorem tuple_V : CallV1 X (.type "tuple") tupleD := by
  rintro pins s σ H xs us Q I r ⟨R, Z, S, v, d, rfl, g, b, h⟩
  cases d with
  | tuple ds =>
    have hh := h
    obtain ⟨a, vs, rfl, ha, ra⟩ := b.tuple g
    refine call_tuple_of pins s σ H _ us Q I r ⟨a, vs, rfl, .inr ⟨ha, PR.imm h g ?_⟩⟩
    rcases b with q | ⟨_, _, _, _, q, _⟩
    · exact q
    · cases q
  | list ds =>
    obtain ⟨a, vs, rfl, ha, ra⟩ := b.list g
    simp only [tupleD] at h
    split at h
    · rename_i hf
      exact call_tuple_frz pins s σ H _ us Q I r ⟨a, vs, rfl, .of ha, PR.newFrz h g hf ra⟩
    · exact call_tuple_frz pins s σ H _ us Q I r ⟨a, vs, rfl, .of ha, PR.newTup h g ra⟩
  | _ => exact h.elim
theorem list_V : CallV1 X (.type "list") listD := by
  rintro pins s σ H xs us Q I r ⟨R, Z, S, v, d, rfl, g, b, h⟩
  cases d with
  | tuple ds =>
    obtain ⟨a, vs, rfl, ha, ra⟩ := b.tuple g
    exact call_list_of pins s σ H _ us Q I r ⟨a, vs, rfl, .inr ha, PR.newLst h g ra⟩
  | list ds =>
    obtain ⟨a, vs, rfl, ha, ra⟩ := b.list g
    exact call_list_of pins s σ H _ us Q I r ⟨a, vs, rfl, .inl (.of ha), PR.newLst h g ra⟩
  | _ => exact h.elim
theorem two_ints {xs : List V} {ds : List PyData} {i j : Int} (r : RpAll K Z xs [.int i, .int j]) : xs = [.int i, .int j] := by
  cases r with
  | cons a r =>
    cases r with
    | cons b r =>
      cases r
      cases a
      cases b
      rfl
theorem max_V (hc : X.calm = true) : CallV X (.builtin "max") maxD := by
  rintro pins s σ H xs us Q I r ⟨R, Z, S, ds, g, b, h⟩
  unfold maxD at h
  split at h
  · rename_i i j
    exact call_max2 hc pins s σ H _ us Q I r ⟨i, j, two_ints (ds := []) b, PR.imm h g (.int _)⟩
  · exact h.elim
theorem min_V (hc : X.calm = true) : CallV X (.builtin "min") minD := by
  rintro pins s σ H xs us Q I r ⟨R, Z, S, ds, g, b, h⟩
  unfold minD at h
  split at h
  · rename_i i j
    exact call_min2 hc pins s σ H _ us Q I r ⟨i, j, two_ints (ds := []) b, PR.imm h g (.int _)⟩
  · exact h.elim
end

/-! ### subscripts -/
def ixD : PyData → PyData → Tr Sl
  | .tuple xs, .int i => match atI xs i with
    | some d => rI d
    | none => .bad
  | .list xs, .int i => match atI xs i with
    | some d => rI d
    | none => .bad
  | _, _ => .bad
def IxV (X : Cx) (f : PyData → PyData → Tr Sl) : Prop := IxR X fun x y H Q => ∃ R Z S d e, Good R Z S H ∧ Bw X.K Z S H x d ∧ Bw X.K Z S H y e ∧ PR X.K R Z S H (f d e) Q
section
variable {X : Cx} {K : PySem.W.Frag} {R Z Z' : Hp} {S : Src} {H H' : Hp} {σ : St} {env : Ev} {a b : Expr} {p q : Bool} {ma mb : MI} {pos : Pos}
theorem RpAll.atI {xs : List V} {ds : List PyData} {i : Int} {d : PyData} (r : RpAll K Z xs ds) (h : L2.atI ds i = some d) : ∃ v, L2.atI xs i = some v ∧ Rp K Z v d := by
  unfold L2.atI at h ⊢
  rw [r.length]
  cases hx : ixN ds.length i with
  | none => rw [hx] at h; cases h
  | some j =>
    rw [hx] at h
    exact r.get' h
theorem ix_V : IxV X ixD := by
  rintro ev es pins s σ H x y v u Q I rx ry ⟨R, Z, S, d, e, g, bx, by_, h⟩ hsub
  cases d with
  | tuple ds =>
    cases e with
    | int i =>
      simp only [ixD] at h
      split at h
      · rename_i d hd
        obtain ⟨a, vs, rfl, ha, ra⟩ := bx.tuple g
        obtain ⟨w, hw, rw_⟩ := ra.atI hd
        exact ix_tup ev es pins s σ H _ _ v u Q I rx ry ⟨a, vs, i, w, rfl, by_.int, ha, hw, PR.imm h g rw_⟩ hsub
      · exact h.elim
    | _ => exact h.elim
  | list ds =>
    cases e with
    | int i =>
      simp only [ixD] at h
      split at h
      · rename_i d hd
        obtain ⟨a, vs, rfl, ha, ra⟩ := bx.list g
        obtain ⟨w, hw, rw_⟩ := ra.atI hd
        exact ix_list ev es pins s σ H _ _ v u Q I rx ry ⟨a, vs, i, w, rfl, by_.int, .of ha, hw, PR.imm h g rw_⟩ hsub
      · exact h.elim
    | _ => exact h.elim
  | _ => exact h.elim
theorem ve_ix (ha : VI X p a ma) (hb : VB X q b mb) (hs : PlainIx b := by intro _ _; rfl) : VE X (p && q) (.Subscript a b pos) (m2 ixD ma mb) :=
  pe_weak (pe_ix ix_V ha hb hs) fun σ H Q h => rd_two h
theorem ve_ixB (ha : VB X p a ma) (hb : VB X true b mb) (hs : PlainIx b := by intro _ _; rfl) : VE X p (.Subscript a b pos) (m2 ixD ma mb) :=
  pe_weak (pe_ix ix_V ha hb hs) fun σ H Q h => rd_twoB h
end

/-! ### slices -/
abbrev MO := Ev → Tr (Option Int × Ev)
def RO (K : PySem.W.Frag) (p : Bool) (m : MO) : TO := fun σ H Q => ∃ R Z S env, SR K R Z S H σ env ∧ (m env).all fun y => ∀ Z' H', Same Z Z' → (p = true → Stay S H H') → SR K R Z' S H' σ y.2 → Q y.1 H'
abbrev VO (X : Cx) (p : Bool) (e : Option Expr) (m : MO) : Prop := PO X e (RO X.K p m)
def oNone : MO := fun env => .ret (none, env)
def int? : PyData → Tr Int
  | .int i => .ret i
  | _ => .bad
def oSome (m : MI) : MO := fun env => (m env).bind fun x => (int? x.1).bind fun i => .ret (some i, x.2)
/-- t[lo:hi] -/
def cutD (xs : List PyData) (lo hi : Option Int) : List PyData := (xs.drop (HT.sIx xs.length 0 lo)).take (HT.sIx xs.length xs.length hi - HT.sIx xs.length 0 lo)
def slD : PyData → Option Int → Option Int → Tr Sl
  | .tuple xs, lo, hi => rI (.tuple (cutD xs lo hi))
  | .list xs, lo, hi => .ret (.lst (cutD xs lo hi))
  | _, _, _ => .bad
def m3 (f : PyData → Option Int → Option Int → Tr Sl) (ma : MI) (ml mh : MO) : ME := fun env => (ma env).bind fun x => (ml x.2).bind fun l => (mh l.2).bind fun h => (f x.1 l.1 h.1).bind fun r => .ret (r, h.2)
section
variable {X : Cx} {K : PySem.W.Frag} {R Z Z' : Hp} {S : Src} {H H' : Hp} {σ : St} {env : Ev} {a b : Expr} {lo hi : Option Expr} {p q r : Bool} {ma mb : MI} {ml mh : MO} {pos p2 : Pos}
theorem po_weak {e : Option Expr} {t t' : TO} (h : PO X e t) (w : ∀ σ H Q, t' σ H Q → t σ H Q) : PO X e t' := ⟨fun pins s σ H Q I q => h.run pins s σ H Q I (w σ H Q q)⟩
theorem vo_none : VO X true none oNone := po_weak po_none fun σ H Q ⟨R, Z, S, env, s, k⟩ => k Z H (Same.refl Z) (fun _ => Stay.refl) s
theorem int?_all {d : PyData} {P : Int → Prop} (h : (int? d).all P) : ∃ b, d = .int b ∧ P b := by
  cases d with
  | int b => exact ⟨b, rfl, h⟩
  | _ => exact h.elim
theorem vo_some (h : VI X p a ma) : VO X p (some a) (oSome ma) := po_weak (po_some h) fun σ H Q ⟨R, Z, S, env, s, k⟩ => by
  refine ⟨R, Z, S, env, s, all_mono (fun y k v Z' H' e st s' r => ?_) (all_bind.mp k)⟩
  obtain ⟨b, hb, k⟩ := int?_all (all_bind.mp k)
  have r' := r
  rw [hb] at r'
  cases r'
  exact ⟨b, rfl, k Z' H' e st s'⟩
theorem RpAll.cut {vs : List V} {ds : List PyData} (r : RpAll K Z vs ds) (lo hi : Option Int) : RpAll K Z (cutV vs lo hi) (cutD ds lo hi) := by
  unfold cutV cutD
  rw [r.length]
  exact (r.drop _).take _
def SlV (X : Cx) : Prop := SlR X fun x lo hi H Q => ∃ R Z S d, Good R Z S H ∧ Bw X.K Z S H x d ∧ PR X.K R Z S H (slD d lo hi) Q
theorem sl_V : SlV X := by
  rintro pins s σ H x v vl vu lo hi sl Q I rx hs pl pu ⟨R, Z, S, d, g, bx, h⟩
  cases d with
  | tuple ds =>
    obtain ⟨a, vs, rfl, ha, ra⟩ := bx.tuple g
    refine sl_tupF pins s σ H _ v vl vu lo hi sl Q I rx hs pl pu ⟨a, vs, rfl, ha, fun hw => ?_, fun _ => PR.newTup h g (ra.cut lo hi)⟩
    rw [ra.length] at hw
    have e : cutD ds lo hi = ds := by
      unfold cutD
      rw [hw.1, hw.2]
      simp
    have h2 : PR X.K R Z S H (rI (.tuple ds)) Q := by rw [← e]; exact h
    refine PR.imm h2 g ?_
    rcases bx with q | ⟨_, _, _, _, q, _⟩
    · exact q
    · cases q
  | list ds =>
    obtain ⟨a, vs, rfl, ha, ra⟩ := bx.list g
    exact sl_list pins s σ H _ v vl vu lo hi sl Q I rx hs pl pu ⟨a, vs, rfl, .of ha, PR.newLst h g (ra.cut lo hi)⟩
  | _ => exact h.elim
theorem ve_slice (ha : VB X p a ma) (hl : VO X true lo ml) (hh : VO X true hi mh) : VE X p (.Subscript a (.Slice lo hi none p2) pos) (m3 slD ma ml mh) :=
  pe_weak (pe_slice sl_V ha hl hh) fun σ H Q ⟨R, Z, S, env, s, k⟩ => by
    refine ⟨R, Z, S, env, s, all_mono (fun x k v1 Z1 H1 e1 st1 s1 r1 => ?_) (all_bind.mp k)⟩
    refine ⟨R, Z1, S, x.2, s1, all_mono (fun l k Z2 H2 e2 st2 s2 => ?_) (all_bind.mp k)⟩
    refine ⟨R, Z2, S, l.2, s2, all_mono (fun h k Z3 H3 e3 st3 s3 => ?_) (all_bind.mp k)⟩
    refine ⟨R, Z3, S, x.1, s3.g, (r1.stay e2 (st2 rfl)).stay e3 (st3 rfl), ?_⟩
    exact PR.rd (p := p) (Z0 := Z) (H0 := H) s3 ((e1.trans e2).trans e3) (fun hp => ((st1 hp).trans (st2 rfl)).trans (st3 rfl)) k
end
end PV

set_option Elab.async false
set_option linter.all false
set_option autoImplicit false
set_option maxRecDepth 100000
/-! PV5: defs by value (with no look at a repr under way), statements, loops, comprehensions. -/
namespace PV
open PySem PySem.Spec L2

/-! ### defs -/
/-- what a def keeps where no repr is under way -/
structure FnG (P : Program) (w : World) (K : PySem.W.Frag) (mg : Str → Option Value) (base : Heap) (k : Nat) (f : Addr) (fd : FuncData) (ps : List Str) (sp : Sp) : Prop where
  len : ∀ vs H Q E, sp vs H Q E → vs.length = ps.length
  go : ∀ (A : Around) (outer : List Env) (s : Shared) (H : Hp) (args : Args) (us : List Value) (vs : List V) (Q : VK) (E : XK), Room k A → A.guards = some [] → Env0 P w K mg base A outer s H → BindsTo s fd args (ps.zip us) →
    Vals vs us → sp vs H Q E → codeAny (model P w) A (.call (.ref f) args) (CR CX0 outer P w H s Q E) s
section
variable {P : Program} {w : World} {K : PySem.W.Frag} {mg : Str → Option Value} {base : Heap}
theorem FnG.mono {j k : Nat} {f : Addr} {fd : FuncData} {ps : List Str} {sp : Sp} (F : FnG P w K mg base j f fd ps sp) (h : j ≤ k) : FnG P w K mg base k f fd ps sp :=
  ⟨F.len, fun A outer s H args us vs Q E hr hG e0 hb hv q => F.go A outer s H args us vs Q E (hr.mono h) hG e0 hb hv q⟩
/-- a body's context -/
abbrev bodyX (P : Program) (w : World) (K : PySem.W.Frag) (mg : Str → Option Value) (base : Heap) (N : List Str) (qual : Str) (sc : Scope) (f : Addr) (cd : Value) (A : Around) (outer : List Env) (s : Shared) (H : Hp) (E : XK) : Cx :=
  (cxOf CX0 P w K mg base N qual sc f cd A outer s H E).nox
theorem fn_body {x qual : Str} {st : Stmt} {f : Addr} {fd : FuncData} {N ps : List Str} {k : Nat} {sp : Sp} (F : Fun K x qual st f fd) (S : FnScope N ps (defScope st)) (len : ∀ vs H Q E, sp vs H Q E → vs.length = ps.length)
    (hbody : ∀ (cd : Value) (A : Around) (outer : List Env) (s : Shared) (H : Hp) (vs : List V) (Q : VK) (E : XK), Room k (A.deeper (PyProof.Rows.envOfC qual (defScope st) s.heap.objs.size f cd)) → A.guards = some [] → sp vs H Q E →
      ∃ t, PSs (bodyX P w K mg base N qual (defScope st) f cd A outer s H E) (defBody st) t ∧ t { nx := fun _ H' => Q .non H', rt := Q } (L2.start N vs) H) : FnG P w K mg base (k + 1) f fd ps sp := by
  obtain ⟨oc, od, kV, doc, pm, an, cd, ct, osl, rfl, lk, hcd⟩ := F.ex
  refine ⟨len, fun A outer s H args us vs Q E hr hG e0 hb r hsp => ?_⟩
  have kept : ∀ b o, base.get? b = some o → s.heap.get? b = some o := fun b o e => (e0.bs b o e).1
  have KX : K.In s.heap := e0.mod.kin.keeps kept
  have hl := len vs H Q E hsp
  refine codeAny_call_function hr.depth (KX _ _ lk) rfl S.co S.gen rfl (PySem.W.codeRec_of KX hcd) (hb _ _ _ _ ?_)
  refine wpAny_newFunctionEnv_cells S.kind (fun y hy => ?_) fun env he s1 z => ?_
  · rcases S.par y.1 (List.of_mem_zip hy).1 with q | q
    · exact .inl q
    · exact .inr ⟨q, PySem.W.cellsFrom_some _ _ _ (.inl q)⟩
  · subst he
    refine ⟨(e0.mod.nolimit.keeps kept).keeps z.toInCall.keep, codeAny_func ?_⟩
    obtain ⟨t, ht, hq⟩ := hbody cd A outer s H vs Q E (hr.deeper _) hG hsp
    have I : Inv (cxOf CX0 P w K mg base N qual (defScope st) f cd A outer s H E) [] (L2.start N vs) H s1 := inv_start S hr.hd e0 hl r z
    have go := ht.nox.run [] s1 (L2.start N vs) H { nx := fun _ H' => Q .non H', rt := Q } I hq
    refine wpAny_mono go (fun fl s' hs => ?_) fun e s' hs => hs
    cases fl with
    | brk => obtain ⟨_, _, _, q⟩ := hs; exact q.elim
    | cont => obtain ⟨_, _, _, q⟩ := hs; exact q.elim
    | next =>
      obtain ⟨σ', H', J, q⟩ := hs
      exact ⟨V.non, H', J.os, J.bare, J.base, J.hok, rfl, q⟩
    | ret u =>
      obtain ⟨v, σ', H', J, rv, q⟩ := hs
      exact ⟨v, H', J.os, J.bare, J.base, J.hok, rv, q⟩
end

/-! ### what a def is worth: the promise by value -/
abbrev FS := List Sl → Tr Sl
def ArgsOk (K : PySem.W.Frag) (Z : Hp) (S : Src) : List V → List Sl → Prop
  | [], [] => True
  | v :: vs, s :: ss => (s.own = false ∧ RSl K Z S (fun _ => none) v s) ∧ ArgsOk K Z S vs ss
  | _, _ => False
def spV (K : PySem.W.Frag) (n : Nat) (f : FS) : Sp := fun vs H Q _ => ∃ R Z S ss, vs.length = n ∧ Good R Z S H ∧ ArgsOk K Z S vs ss ∧
  (f ss).all fun s => ∀ v Z' H', Same Z Z' → Good R Z' S H' → Res K R Z' S H' [] [] v s → Q v H'
/-- a body's worth -/
def run (n : Nat) (m : MS) : FS := fun ss => (m (ss.map some ++ List.replicate (n - ss.length) none)).bind fun x => match x.1 with
  | .nx => .ret (.imm .none)
  | .rt s => .ret s
  | _ => .bad
section
variable {K : PySem.W.Frag} {R Z Z' : Hp} {S : Src} {H H' : Hp} {σ : L2.St} {env : Ev}
theorem RSl.any {v : V} {s : Sl} (o : s.own = false) (r : RSl K Z S H v s) : RSl K Z S H' v s := by
  cases s with
  | lst _ => cases o
  | dT _ => cases o
  | dK _ => cases o
  | imm _ => exact r
  | fT _ => exact r
  | fK _ => exact r
  | ft _ => exact r
  | scr _ => exact r
  | src => exact r
theorem ArgsOk.length : ∀ {vs : List V} {ss : List Sl}, ArgsOk K Z S vs ss → vs.length = ss.length
  | [], [], _ => rfl
  | _ :: _, _ :: _, h => congrArg (· + 1) (ArgsOk.length h.2)
  | [], _ :: _, h => h.elim
  | _ :: _, [], h => h.elim
theorem ArgsOk.get : ∀ {vs : List V} {ss : List Sl} {i : Nat} {s : Sl}, ArgsOk K Z S vs ss → ss[i]? = some s → ∃ v, vs[i]? = some v ∧ RSl K Z S H v s ∧ s.own = false
  | [], [], i, s, _, h => by simp at h
  | v :: vs, t :: ss, 0, s, a, h => by simp at h; subst h; exact ⟨v, rfl, a.1.2.any a.1.1, a.1.1⟩
  | v :: vs, t :: ss, i + 1, s, a, h => by
    obtain ⟨w, h1, h2⟩ := ArgsOk.get (i := i) a.2 (by simpa using h)
    exact ⟨w, by simpa using h1, h2⟩
  | [], _ :: _, _, _, a, _ => a.elim
  | _ :: _, [], _, _, a, _ => a.elim
theorem ArgsOk.mono : ∀ {vs : List V} {ss : List Sl}, Same Z Z' → ArgsOk K Z S vs ss → ArgsOk K Z' S vs ss
  | [], [], _, h => h
  | v :: vs, t :: ss, e, h => ⟨⟨h.1.1, h.1.2.mono e fun _ _ _ _ q => q⟩, ArgsOk.mono e h.2⟩
  | [], _ :: _, _, h => h.elim
  | _ :: _, [], _, h => h.elim
theorem sr_start {N : List Str} {vs : List V} {ss : List Sl} (g : Good R Z S H) (a : ArgsOk K Z S vs ss) : SR K R Z S H (L2.start N vs) (ss.map some ++ List.replicate (N.length - ss.length) none) := by
  have hl := a.length
  have key : ∀ (i : Nat) (s : Sl), (ss.map some ++ List.replicate (N.length - ss.length) none)[i]? = some (some s) → ss[i]? = some s := fun i s h => by
    by_cases hi : i < ss.length
    · rw [List.getElem?_append_left (by simpa using hi), List.getElem?_map] at h
      cases q : ss[i]? with
      | none => rw [q] at h; cases h
      | some t => rw [q] at h; simpa using h
    · rw [List.getElem?_append_right (by simpa using hi)] at h
      rw [List.getElem?_replicate] at h
      split at h <;> cases h
  refine ⟨g, by unfold L2.start; simp [hl], fun i s h => ?_, fun i j s t v hij h1 h2 o1 o2 => ?_⟩
  · obtain ⟨v, h1, h2, h3⟩ := a.get (H := H) (key i s h)
    refine ⟨v, ?_, h2, fun z => by rw [h3] at z; cases z⟩
    unfold L2.start
    have hi : i < vs.length := (List.getElem?_eq_some_iff.mp h1).1
    rw [List.getElem?_append_left (by simpa using hi), List.getElem?_map, h1]
    rfl
  · obtain ⟨v, _, _, h3⟩ := a.get (H := H) (key i s h1)
    rw [h3] at o1; cases o1
end
section
variable {P : Program} {w : World} {K : PySem.W.Frag} {mg : Str → Option Value} {base : Heap}
theorem fnV {x qual : Str} {st : Stmt} {f : Addr} {fd : FuncData} {N ps : List Str} {k : Nat} {m : MS} (F : Fun K x qual st f fd) (S : FnScope N ps (defScope st))
    (hbody : ∀ (cd : Value) (A : Around) (outer : List Env) (s : Shared) (H : Hp) (E : XK), Room k (A.deeper (PyProof.Rows.envOfC qual (defScope st) s.heap.objs.size f cd)) → A.guards = some [] → VSs (bodyX P w K mg base N qual (defScope st) f cd A outer s H E) (defBody st) m) :
    FnG P w K mg base (k + 1) f fd ps (spV K ps.length (run N.length m)) := by
  refine fn_body F S (fun vs H Q E h => ?_) fun cd A outer s H vs Q E hr hG h => ⟨_, hbody cd A outer s H E hr hG, ?_⟩
  · obtain ⟨R, Z, S, ss, hl, _⟩ := h
    exact hl
  · obtain ⟨R, Z, S, ss, hl, g, a, k⟩ := h
    refine ⟨R, Z, S, _, sr_start g a, all_mono (fun y k σ' Z' H' e s' => ?_) (all_bind.mp k)⟩
    cases hy : y.1 with
    | nx =>
      rw [hy] at k
      exact k .non Z' H' e s'.g ⟨.non, (fun z => nomatch z), (fun z => nomatch z)⟩
    | rt t =>
      rw [hy] at k
      exact fun v r => k v Z' H' e s'.g r
    | bk => rw [hy] at k; exact k.elim
    | ct => rw [hy] at k; exact k.elim
end
section
variable {X : Cx} {k : Nat} {f : Addr} {fd : FuncData} {ps : List Str} {n : Nat} {fs : FS} {x : Str} {p pos : Pos} {e : Expr} {es : List Expr} {t : TA}
theorem run_fnG {pins : List (Addr × Obj)} {σ : L2.St} {H : Hp} {s : Shared} {Q : VK} {us : List Value} {vs : List V} {sp : Sp} {E : XK} (F : FnG X.prog X.w X.K X.mg X.base k f fd ps sp) (hr : Room k X.A) (hG : X.A.guards = some []) (hb : Binds X.K fd ps [])
    (I : Inv X pins σ H s) (r : Vals vs us) (h : sp vs H Q E) : wpAny (model X.prog X.w) X.A (call (.ref f) us) (EP X pins σ Q) X.xe s := by
  have hl : (us ++ ([] : List Value)).length = ps.length := by rw [List.append_nil, ← r.length]; exact F.len _ _ _ _ h
  have bb := hb s us I.kIn hl
  rw [List.append_nil] at bb
  refine wpAny_call (codeAny_mono (F.go X.A X.stack s H ⟨us, []⟩ us vs Q E hr hG I.env0 bb r h) fun q s' hq => ?_)
  cases q with
  | error e => exact False.elim hq
  | ok fl =>
    cases fl with
    | ret u => exact I.after hq
    | next => exact False.elim hq
    | brk => exact False.elim hq
    | cont => exact False.elim hq
theorem pe_callG {sp : Sp} (F : FnG X.prog X.w X.K X.mg X.base k f fd ps sp) (hr : Room k X.A) (hG : X.A.guards = some []) (hg : Gl X x) (hm : X.mg x = some (.ref f)) (hk : PySem.W.keepIn X.K (.ref f) = true) (hb : Binds X.K fd ps [])
    (ha : PA X (e :: es) t) (hdb : (x == ("__debug__" : Str)) = false := by decide) (he : starEach (e :: es) X.env = (false, eval e X.env) :: starEach es X.env := by rfl) (hpl : (backTo pos (starEach es X.env)).any (·.1) = false := by rfl) :
    PE X (.Call (.Name x p) (e :: es) [] pos) (fun σ H Q => t σ H fun vs H1 => sp vs H1 Q E0) :=
  ⟨fun pins s σ H Q I h => wpAny_Call_Name_kw (ld_glob I hg hm (PySem.W.callWith_K (h₀ := X.base) I.ok.mod.kin hk
    (thn (ha.run pos pins s σ H _ I h) fun us s1 ⟨vs, H1, I1, r, q⟩ => ⟨I1.kIn, run_fnG F hr hG hb I1 r q⟩) he hpl) hdb)⟩
end

/-! ### arguments with the source among them -/
abbrev MG := Ev → Tr (List Sl × Ev)
def RG (K : PySem.W.Frag) (p : Bool) (m : MG) : TA := fun σ H Q => ∃ R Z S env, SR K R Z S H σ env ∧ (m env).all fun y => ∀ vs Z' H', Same Z Z' → (p = true → Stay S H H') → SR K R Z' S H' σ y.2 → ArgsOk K Z' S vs y.1 → Q vs H'
abbrev VG (X : Cx) (p : Bool) (es : List Expr) (m : MG) : Prop := PA X es (RG X.K p m)
def gNil' : MG := fun env => .ret ([], env)
def gCons' (a : MI) (r : MG) : MG := fun env => (a env).bind fun x => (r x.2).bind fun xs => .ret (.imm x.1 :: xs.1, xs.2)
/-- the source (a lasting dict), in slot i -/
def gSrc (i : Nat) (r : MG) : MG := fun env => match env[i]? with
  | some (some .src) => (r env).bind fun xs => .ret (.src :: xs.1, xs.2)
  | some (some (.fT kvs)) => (r env).bind fun xs => .ret (.fT kvs :: xs.1, xs.2)
  | some (some (.fK kvs)) => (r env).bind fun xs => .ret (.fK kvs :: xs.1, xs.2)
  | some (some (.ft kvs)) => (r env).bind fun xs => .ret (.ft kvs :: xs.1, xs.2)
  | some (some (.imm d)) => (r env).bind fun xs => .ret (.imm d :: xs.1, xs.2)
  | _ => .bad
@[irreducible] def mCall (n : Nat) (fs : FS) (m : MG) : ME := fun env => (m env).bind fun x => ok (x.1.length = n) ((fs x.1).bind fun r => .ret (r, x.2))
/-- all but the lasting and the source -/
def restH (Z : Hp) (S : Src) (H : Hp) : Hp := fun x => if Z x = none ∧ ¬ inS S x then H x else none
theorem restH_some {Z H : Hp} {S : Src} {x : Addr} {o : HO} (h : restH Z S H x = some o) : Z x = none ∧ ¬ inS S x ∧ H x = some o := by
  unfold restH at h
  split at h
  · rename_i c
    exact ⟨c.1, c.2, h⟩
  · cases h
theorem restH_of {Z H : Hp} {S : Src} {x : Addr} {o : HO} (h : H x = some o) (z : Z x = none) (n : ¬ inS S x) : restH Z S H x = some o := by
  unfold restH
  rw [if_pos ⟨z, n⟩]
  exact h
theorem restH_src {Z H : Hp} {S : Src} {x : Addr} (n : inS S x) : restH Z S H x = none := if_neg fun c => c.2 n
theorem Good.rest {R Z H : Hp} {S : Src} (g : Good R Z S H) : Good (restH Z S H) Z S H :=
  ⟨fun x o h => (restH_some h).2.2, g.z, g.s, fun x o h => (restH_some h).1, fun x n => ⟨restH_src n, (g.rs x n).2⟩, g.tz⟩
section
variable {X : Cx} {e : Expr} {es : List Expr} {p q : Bool} {ma : MI} {mg' : MG} {pos p2 : Pos} {x : Str}
theorem vg_nil : VG X true [] gNil' := pa_weak pa_nil fun σ H Q ⟨R, Z, S, env, s, k⟩ => k [] Z H (Same.refl Z) (fun _ => Stay.refl) s trivial
theorem vg_cons (ha : VI X p e ma) (hr : VG X q es mg') (hs : starEach (e :: es) X.env = (false, eval e X.env) :: starEach es X.env := by rfl) : VG X (p && q) (e :: es) (gCons' ma mg') :=
  pa_weak (pa_cons ha hr hs) fun σ H Q ⟨R, Z, S, env, s, k⟩ => by
    refine ⟨R, Z, S, env, s, all_mono (fun y k v Z' H' e st s' r => ?_) (all_bind.mp k)⟩
    refine ⟨R, Z', S, y.2, s', all_mono (fun y' k' vs Z2 H2 e2 st2 s2 r2 => ?_) (all_bind.mp k)⟩
    refine k' (v :: vs) Z2 H2 (e.trans e2) (fun hp => ?_) s2 ⟨⟨rfl, r.mono e2⟩, r2⟩
    simp only [Bool.and_eq_true] at hp
    exact (st hp.1).trans (st2 hp.2)
theorem vg_src {i : Nat} (ha : PE X e (tVar i)) (hr : VG X q es mg') (hs : starEach (e :: es) X.env = (false, eval e X.env) :: starEach es X.env := by rfl) : VG X q (e :: es) (gSrc i mg') :=
  pa_weak (pa_cons ha hr hs) fun σ H Q ⟨R, Z, S, env, s, k⟩ => by
    unfold gSrc at k
    split at k
    · rename_i hd
      obtain ⟨v, h1, h2, h3⟩ := s.sl i _ hd
      exact ⟨v, h1, R, Z, S, env, s, all_mono (fun y' k' vs Z2 H2 e2 st2 s2 r2 => k' (v :: vs) Z2 H2 e2 st2 s2 ⟨⟨rfl, h2⟩, r2⟩) (all_bind.mp k)⟩
    · rename_i kvs hd
      obtain ⟨v, h1, h2, h3⟩ := s.sl i _ hd
      exact ⟨v, h1, R, Z, S, env, s, all_mono (fun y' k' vs Z2 H2 e2 st2 s2 r2 => k' (v :: vs) Z2 H2 e2 st2 s2 ⟨⟨rfl, h2.mono e2 fun _ _ z => nomatch z⟩, r2⟩) (all_bind.mp k)⟩
    · rename_i kvs hd
      obtain ⟨v, h1, h2, h3⟩ := s.sl i _ hd
      exact ⟨v, h1, R, Z, S, env, s, all_mono (fun y' k' vs Z2 H2 e2 st2 s2 r2 => k' (v :: vs) Z2 H2 e2 st2 s2 ⟨⟨rfl, h2.mono e2 fun _ _ z => nomatch z⟩, r2⟩) (all_bind.mp k)⟩
    · rename_i kvs hd
      obtain ⟨v, h1, h2, h3⟩ := s.sl i _ hd
      exact ⟨v, h1, R, Z, S, env, s, all_mono (fun y' k' vs Z2 H2 e2 st2 s2 r2 => k' (v :: vs) Z2 H2 e2 st2 s2 ⟨⟨rfl, h2.mono e2 fun _ _ z => nomatch z⟩, r2⟩) (all_bind.mp k)⟩
    · rename_i kvs hd
      obtain ⟨v, h1, h2, h3⟩ := s.sl i _ hd
      exact ⟨v, h1, R, Z, S, env, s, all_mono (fun y' k' vs Z2 H2 e2 st2 s2 r2 => k' (v :: vs) Z2 H2 e2 st2 s2 ⟨⟨rfl, h2.mono e2 fun _ _ z => nomatch z⟩, r2⟩) (all_bind.mp k)⟩
    · exact k.elim
/-- behind a callee that was given all as its reserve -/
theorem back {K : PySem.W.Frag} {R Z Z2 H H2 : Hp} {S : Src} {σ : L2.St} {env : Ev} {v : V} {r : Sl} (s : SR K R Z S H σ env) (e : Same Z Z2) (g2 : Good (restH Z S H) Z2 S H2) (res : Res K (restH Z S H) Z2 S H2 [] [] v r) :
    Stay S H H2 ∧ SR K R Z2 S H2 σ env ∧ Res K R Z2 S H2 σ env v r := by
  have same : Stay S H H2 := fun x o h n => by
    cases hz : Z x with
    | none => exact g2.r x o (restH_of h hz n)
    | some u =>
      have := s.g.z x u hz
      rw [h] at this
      cases this
      exact g2.z x _ (e x _ hz)
  have zz : ∀ x o, H x = some o → Z x = none → ¬ inS S x → Z2 x = none := fun x o h z n => g2.rz x o (restH_of h z n)
  have rn : ∀ x o, R x = some o → ¬ inS S x := fun x o h n => by
    rw [(s.g.rs x n).1] at h
    cases h
  have good : Good R Z2 S H2 := ⟨fun x o h => same x o (s.g.r x o h) (rn x o h), g2.z, g2.s, fun x o h => zz x o (s.g.r x o h) (s.g.rz x o h) (rn x o h), fun x n => ⟨(s.g.rs x n).1, (g2.rs x n).2⟩, g2.tz⟩
  have s2 : SR K R Z2 S H2 σ env := s.stay good e same fun a o ha => by
    cases hh : H a with
    | none => exact absurd hh ha
    | some u => exact zz a u hh o.2.1 o.2.2
  have rr : ∀ a, restH Z S H a = none → Z2 a = none → ¬ inS S a → H a = none := fun a h1 h2 h3 => by
    cases hh : H a with
    | none => rfl
    | some u =>
      cases hz : Z a with
      | none =>
        rw [restH_of hh hz h3] at h1
        cases h1
      | some o =>
        rw [e a o hz] at h2
        cases h2
  refine ⟨same, s2, res.r, fun o a ha => ?_, fun o i t hi ht q => ?_⟩
  · have q := res.o o a ha
    exact ⟨s.g.r.free (rr a q.1 q.2.1 q.2.2), q.2.1, q.2.2⟩
  · obtain ⟨a, u, rfl, _, _⟩ := res.r.at o
    have w := res.o o a rfl
    obtain ⟨v', h1, h2, h3⟩ := s.sl i t hi
    obtain ⟨b, ob, rfl, hob, _⟩ := h2.at ht
    rw [h1] at q
    have q' : V.ref b = V.ref a := Option.some.inj (Option.some.inj q)
    cases q'
    rw [rr _ w.1 w.2.1 w.2.2] at hob
    cases hob
/-- the call's end, seen from the caller -/
theorem rd_call {K : PySem.W.Frag} {n : Nat} {fs : FS} {m : MG} {σ : L2.St} {H : Hp} {Q : VK} (h : RD K p (mCall n fs m) σ H Q) :
    RG K p m σ H fun vs H1 => spV K n fs vs H1 Q E0 := by
  obtain ⟨R, Z, S, env, s, k⟩ := h
  unfold mCall at k
  refine ⟨R, Z, S, env, s, all_mono (fun y k vs Z1 H1 e1 st1 s1 a1 => ?_) (all_bind.mp k)⟩
  obtain ⟨hl, k⟩ := ok_all k
  refine ⟨restH Z1 S H1, Z1, S, y.1, by rw [a1.length]; exact hl, s1.g.rest, a1, ?_⟩
  refine all_mono (fun r k v Z2 H2 e2 g2 res => ?_) (all_bind.mp k)
  obtain ⟨b1, b2, b3⟩ := back s1 e2 g2 res
  exact k v Z2 H2 (e1.trans e2) (fun hp => (st1 hp).trans b1) b2 b3
theorem ve_call {k : Nat} {f : Addr} {fd : FuncData} {ps : List Str} {n : Nat} {fs : FS} (F : FnG X.prog X.w X.K X.mg X.base k f fd ps (spV X.K n fs)) (hr : Room k X.A) (hG : X.A.guards = some []) (hg : Gl X x) (hm : X.mg x = some (.ref f))
    (hk : PySem.W.keepIn X.K (.ref f) = true) (hb : Binds X.K fd ps []) (ha : VG X p (e :: es) mg') (hdb : (x == ("__debug__" : Str)) = false := by decide)
    (he : starEach (e :: es) X.env = (false, eval e X.env) :: starEach es X.env := by rfl) (hpl : (backTo pos (starEach es X.env)).any (·.1) = false := by rfl) : VE X p (.Call (.Name x p2) (e :: es) [] pos) (mCall n fs mg') :=
  pe_weak (pe_callG F hr hG hg hm hk hb ha hdb he hpl) fun σ H Q h => rd_call h
end
end PV

set_option Elab.async false
set_option linter.all false
set_option autoImplicit false
set_option maxRecDepth 100000
/-! PV6: statements, changes of lists, loops. -/
namespace PV
open PySem PySem.Spec L2

/-! ### a thing of its own is changed -/
section
variable {K : PySem.W.Frag} {R Z Z' : Hp} {S : Src} {H H' : Hp} {σ : L2.St} {env : Ev}
theorem SV.other {p : Addr} {o : HO} (n : ¬ inS S p) (s : SV S H) : SV S (upd H p o) := by
  cases S with
  | none => trivial
  | some ac =>
    obtain ⟨ne, l, m, t, cs, h1, h2⟩ := s
    exact ⟨ne, l, m, t, cs, by rw [upd_ne fun z => n (.inl z.symm)]; exact h1, by rw [upd_ne fun z => n (.inr z.symm)]; exact h2⟩
theorem Good.change {p : Addr} {o : HO} (g : Good R Z S H) (q : Out R Z S p) (no : ∀ xs, o ≠ HO.tup xs := by intro _ z; cases z) : Good R Z S (upd H p o) :=
  ⟨fun x u e => by
    have : x ≠ p := fun z => by subst z; rw [q.1] at e; cases e
    rw [upd_ne this]; exact g.r x u e, fun x u e => by
    have : x ≠ p := fun z => by subst z; rw [q.2.1] at e; cases e
    rw [upd_ne this]; exact g.z x u e, g.s.other q.2.2, g.rz, g.rs, fun x xs e => by
    by_cases hx : x = p
    · subst hx; rw [upd_same] at e; exact absurd (Option.some.inj e) (no xs)
    · rw [upd_ne hx] at e; exact g.tz x xs e⟩
theorem SR.mut {i : Nat} {a : Addr} {t t' : Sl} {o' : HO} (s : SR K R Z S H σ env) (he : env[i]? = some (some t)) (ho : t.own = true) (hv : σ[i]? = some (some (.ref a))) (r : RSl K Z S (upd H a o') (.ref a) t') (no : ∀ xs, o' ≠ HO.tup xs := by intro _ z; cases z) :
    SR K R Z S (upd H a o') σ (env.set i (some t')) := by
  obtain ⟨v, h1, h2, h3⟩ := s.sl i t he
  rw [hv] at h1
  cases h1
  have out := h3 ho a rfl
  have hl : i < env.length := (List.getElem?_eq_some_iff.mp he).1
  have e1 : σ.set i (some (.ref a)) = σ := by
    obtain ⟨hl, e⟩ := List.getElem?_eq_some_iff.mp hv
    rw [← e]; exact List.set_getElem_self hl
  -- without the slot all the others stay
  have sd := s.drop (i := i)
  have other : SR K R Z S (upd H a o') σ (env.set i none) := by
    refine ⟨s.g.change out no, sd.len, fun j u hj => ?_, sd.ds⟩
    obtain ⟨w, w1, w2, w3⟩ := sd.sl j u hj
    have hij : i ≠ j := fun z => by
      subst z
      rw [List.getElem?_set_self hl] at hj
      cases hj
    refine ⟨w, w1, ?_, w3⟩
    rw [List.getElem?_set_ne hij] at hj
    refine w2.mono (Same.refl _) fun b hb hu o e => ?_
    have : b ≠ a := fun z => by
      subst z
      rw [hb] at w1
      exact s.ds i j t u (.ref b) hij he hj ho hu hv w1
    rw [upd_ne this]
    exact e
  have fin := other.set (i := i) (v := .ref a) (s := t') ⟨r, fun _ b hb => by cases hb; exact out, fun _ j u hj hu q => by
    by_cases hij : i = j
    · subst hij
      rw [List.getElem?_set_self hl] at hj
      cases hj
    · rw [List.getElem?_set_ne hij] at hj
      exact s.ds i j t u (.ref a) hij he hj ho hu hv q⟩
  rw [e1, List.set_set] at fin
  exact fin
end

/-! ### statements -/
def sNx : MS := fun env => .ret (.nx, env)
def sBk : MS := fun env => .ret (.bk, env)
def sCt : MS := fun env => .ret (.ct, env)
def sBad : MS := fun _ => .bad
def sSeq (a b : MS) : MS := fun env => (a env).bind fun x => match x.1 with
  | .nx => b x.2
  | f => .ret (f, x.2)
def sSet (i : Nat) (m : ME) : MS := fun env => (m env).bind fun x => .ret (.nx, x.2.set i (some x.1))
def sDrop (m : ME) : MS := fun env => (m env).bind fun x => .ret (.nx, x.2)
def sRet (m : ME) : MS := fun env => (m env).bind fun x => .ret (.rt x.1, x.2)
def sRetN : MS := fun env => .ret (.rt (.imm .none), env)
def sIf (c : MT) (a b : MS) : MS := fun env => (c env).bind fun x => if x.1 = true then a x.2 else b x.2
section
variable {X : Cx} {e c : Expr} {st : Stmt} {sts rest : List Stmt} {p q : Bool} {m : ME} {mi : MI} {ta : MT} {ma mb : MS} {pos : Pos}
theorem vss_nil : VSs X [] sNx := pss_weak pss_nil fun D σ H ⟨R, Z, S, env, s, k⟩ => k σ Z H (Same.refl Z) s
theorem vss_one (h : VS X st ma) : VSs X [st] ma := pss_one h
theorem vss_cons (h : VS X st ma) (h2 : VSs X rest mb) : VSs X (st :: rest) (sSeq ma mb) := pss_weak (pss_cons h h2) fun D σ H ⟨R, Z, S, env, s, k⟩ => by
  refine ⟨R, Z, S, env, s, all_mono (fun y k σ' Z' H' e s' => ?_) (all_bind.mp k)⟩
  cases hy : y.1 with
  | nx =>
    rw [hy] at k
    exact ⟨R, Z', S, y.2, s', all_mono (fun y' k' σ2 Z2 H2 e2 s2 => k' σ2 Z2 H2 (e.trans e2) s2) k⟩
  | bk => rw [hy] at k; exact k σ' Z' H' e s'
  | ct => rw [hy] at k; exact k σ' Z' H' e s'
  | rt t => rw [hy] at k; exact k σ' Z' H' e s'
theorem vs_pass : VS X (.Pass pos) sNx := ps_weak ps_pass fun D σ H ⟨R, Z, S, env, s, k⟩ => k σ Z H (Same.refl Z) s
theorem vs_break : VS X (.Break pos) sBk := ps_weak ps_break fun D σ H ⟨R, Z, S, env, s, k⟩ => k σ Z H (Same.refl Z) s
theorem vs_continue : VS X (.Continue pos) sCt := ps_weak ps_continue fun D σ H ⟨R, Z, S, env, s, k⟩ => k σ Z H (Same.refl Z) s
theorem vs_never : VS X st sBad := ps_weak ps_never fun D σ H ⟨R, Z, S, env, s, k⟩ => k.elim
theorem vss_never : VSs X sts sBad := pss_weak pss_never fun D σ H ⟨R, Z, S, env, s, k⟩ => k.elim
theorem vs_expr (h : VE X p e m) (hs : swapsWith e none pos.line X.env = pure false := by rfl) : VS X (.Expr e pos) (sDrop m) := ps_weak (ps_expr h hs) fun D σ H ⟨R, Z, S, env, s, k⟩ =>
  ⟨R, Z, S, env, s, all_mono (fun y k v Z' H' e st s' r => k σ Z' H' e s') (all_bind.mp k)⟩
theorem vs_ret (h : VE X p e m) : VS X (.Return (some e) pos) (sRet m) := ps_weak (ps_ret h) fun D σ H ⟨R, Z, S, env, s, k⟩ =>
  ⟨R, Z, S, env, s, all_mono (fun y k v Z' H' e st s' r => k σ Z' H' e s' v ⟨r.r, r.o, fun _ i t h => by simp at h⟩) (all_bind.mp k)⟩
theorem vs_retN : VS X (.Return none pos) sRetN := ps_weak ps_retN fun D σ H ⟨R, Z, S, env, s, k⟩ => k σ Z H (Same.refl Z) s .non ⟨.non, (fun z => nomatch z), (fun z => nomatch z)⟩
theorem vs_if (hc : VT X p c ta) (ha : VSs X sts ma) (hb : VSs X rest mb) : VS X (.If c sts rest pos) (sIf ta ma mb) := ps_weak (ps_if hc ha hb) fun D σ H ⟨R, Z, S, env, s, k⟩ => by
  refine ⟨R, Z, S, env, s, all_mono (fun y k Z' H' e st s' => ?_) (all_bind.mp k)⟩
  dsimp only
  split
  · rename_i hc
    rw [if_pos hc] at k
    exact ⟨R, Z', S, y.2, s', all_mono (fun y' k' σ2 Z2 H2 e2 s2 => k' σ2 Z2 H2 (e.trans e2) s2) k⟩
  · rename_i hc
    rw [if_neg hc] at k
    exact ⟨R, Z', S, y.2, s', all_mono (fun y' k' σ2 Z2 H2 e2 s2 => k' σ2 Z2 H2 (e.trans e2) s2) k⟩
theorem vs_set {i : Nat} {x : Str} {pos' : Pos} (hN : X.N.Nodup) (h : VE X p e m) (hi : X.N[i]? = some x := by rfl) (hx : Loc X.env.scope x := by first | exact Or.inl rfl | exact Or.inr rfl)
    (hs : swapsWith e (some (.Name x pos')) pos.line X.env = pure false := by rfl) (hf : X.fn x = true ∨ X.env.scope.names.lookup x = some .local := by first | exact .inl rfl | exact .inr rfl) : VS X (.Assign [.Name x pos'] e pos) (sSet i m) :=
  ps_weak (ps_set hN hi hx h hs hf) fun D σ H ⟨R, Z, S, env, s, k⟩ =>
    ⟨R, Z, S, env, s, all_mono (fun y k v Z' H' e st s' r => k _ Z' H' e (s'.set r)) (all_bind.mp k)⟩
end

/-! ### targets -/
abbrev MTg := Sl → Ev → Tr Ev
def RGt (K : PySem.W.Frag) (m : MTg) : TG := fun v σ H Q => ∃ R Z S env t, SR K R Z S H σ env ∧ Res K R Z S H σ env v t ∧ (m t env).all fun env' => ∀ σ' Z' H', Same Z Z' → SR K R Z' S H' σ' env' → Q σ' H'
abbrev VTg (X : Cx) (e : Expr) (m : MTg) : Prop := PG X e (RGt X.K m)
def tgName (i : Nat) : MTg := fun t env => .ret (env.set i (some t))
def tgAll : List Nat → List PyData → Ev → Tr Ev
  | [], [], env => .ret env
  | i :: is, d :: ds, env => tgAll is ds (env.set i (some (.imm d)))
  | _, _, _ => .bad
/-- a, b = .. -/
def tgTup (is : List Nat) : MTg := fun t env => match t with
  | .imm (.tuple ds) => tgAll is ds env
  | _ => .bad
def sAsg (m : ME) (g : MTg) : MS := fun env => (m env).bind fun x => (g x.1 x.2).bind fun env' => .ret (.nx, env')
section
variable {X : Cx} {e : Expr} {p : Bool} {m : ME} {g : MTg} {pos : Pos}
theorem pg_weak {t t' : TG} (h : PG X e t) (w : ∀ v σ H Q, t' v σ H Q → t v σ H Q) : PG X e t' := ⟨fun pins s σ H v u Q I r q => h.run pins s σ H v u Q I r (w v σ H Q q)⟩
theorem vg_name {i : Nat} {x : Str} (hN : X.N.Nodup) (hi : X.N[i]? = some x := by rfl) (hx : Loc X.env.scope x := by first | exact Or.inl rfl | exact Or.inr rfl)
    (hf : X.fn x = true ∨ X.env.scope.names.lookup x = some .local := by first | exact .inl rfl | exact .inr rfl) : VTg X (.Name x pos) (tgName i) :=
  pg_weak (pg_name hN hi hx hf) fun v σ H Q ⟨R, Z, S, env, t, s, r, k⟩ => k _ Z H (Same.refl Z) (s.set r)
/-- several names -/
def RGs (K : PySem.W.Frag) (is : List Nat) : TGs := fun vs σ H Q => ∃ R Z S env ds, SR K R Z S H σ env ∧ RpAll K Z vs ds ∧ (tgAll is ds env).all fun env' => ∀ σ' Z' H', Same Z Z' → SR K R Z' S H' σ' env' → Q σ' H'
theorem pgs_weak {es : List Expr} {t t' : TGs} (h : PGs X es t) (w : ∀ v σ H Q, t' v σ H Q → t v σ H Q) : PGs X es t' := ⟨fun pins s σ H v u Q I r q => h.run pins s σ H v u Q I r (w v σ H Q q)⟩
theorem vgs_nil : PGs X [] (RGs X.K []) := pgs_weak pgs_nil fun vs σ H Q ⟨R, Z, S, env, ds, s, r, k⟩ => by
  cases ds with
  | nil =>
    cases r
    exact ⟨rfl, k σ Z H (Same.refl Z) s⟩
  | cons d ds => exact k.elim
theorem vgs_cons {es : List Expr} {i : Nat} {is : List Nat} {x : Str} {px : Pos} (hN : X.N.Nodup) (h : PGs X es (RGs X.K is)) (hi : X.N[i]? = some x := by rfl) (hx : Loc X.env.scope x := by first | exact Or.inl rfl | exact Or.inr rfl)
    (hf : X.fn x = true ∨ X.env.scope.names.lookup x = some .local := by first | exact .inl rfl | exact .inr rfl) : PGs X (.Name x px :: es) (RGs X.K (i :: is)) :=
  pgs_weak (pgs_cons (pg_name hN hi hx hf) h) fun vs σ H Q ⟨R, Z, S, env, ds, s, r, k⟩ => by
    cases ds with
    | nil => exact k.elim
    | cons d ds =>
      cases r with
      | cons r1 r2 => exact ⟨_, _, rfl, R, Z, S, _, ds, s.setFree (s := .imm d) rfl r1, r2, k⟩
theorem vg_tup {es : List Expr} {n : Nat} {is : List Nat} (hc : X.calm = true) (h : PGs X es (RGs X.K is)) (hl : (assignEach es X.env).length = is.length := by rfl) (hst : (assignEach es X.env).findIdx? (·.1) = none := by rfl) : VTg X (.Tuple es n pos) (tgTup is) :=
  pg_weak (pg_tup hc h hl hst) fun v σ H Q ⟨R, Z, S, env, t, s, r, k⟩ => by
    unfold tgTup at k
    split at k
    · rename_i ds
      obtain ⟨a, vs, rfl, ha, ra⟩ := Bw.tuple s.g (.inl r.r)
      have hz : ∀ (is : List Nat) (ds : List PyData) (env : Ev) (P : Ev → Prop), (tgAll is ds env).all P → is.length = ds.length := by
        intro is
        induction is with
        | nil =>
          intro ds env P h
          cases ds with
          | nil => rfl
          | cons _ _ => exact h.elim
        | cons i is ih =>
          intro ds env P h
          cases ds with
          | nil => exact h.elim
          | cons _ ds => exact congrArg (· + 1) (ih ds _ P h)
      exact ⟨a, vs, rfl, ha, by rw [ra.length, ← hz _ _ _ _ k], R, Z, S, env, ds, s, ra, k⟩
    · exact k.elim
theorem vs_asg {tg : Expr} (h : VE X p e m) (hg : VTg X tg g) (hs : swapsWithSole [tg] e pos.line X.env = pure false := by rfl) (hw : swappedStores [tg] e X.env = pure none := by rfl)
    (h1 : (assignEach [tg] X.env).map (·.2) = [assign tg X.env] := by rfl) : VS X (.Assign [tg] e pos) (sAsg m g) :=
  ps_weak (ps_asg h hg hs hw h1) fun D σ H ⟨R, Z, S, env, s, k⟩ =>
    ⟨R, Z, S, env, s, all_mono (fun y k v Z' H' e st s' r => ⟨R, Z', S, y.2, y.1, s', r, all_mono (fun env' k σ2 Z2 H2 e2 s2 => k σ2 Z2 H2 (e.trans e2) s2) (all_bind.mp k)⟩) (all_bind.mp k)⟩
end

/-! ### for -/
def forD (g : MTg) (body : MS) : List PyData → Ev → Tr (Fl × Ev)
  | [], env => .ret (.nx, env)
  | d :: ds, env => (g (.imm d) env).bind fun env1 => (body env1).bind fun x => match x.1 with
    | .nx => forD g body ds x.2
    | .ct => forD g body ds x.2
    | .bk => .ret (.nx, x.2)
    | .rt s => .ret (.rt s, x.2)
/-- J gives ds, one at a turn, while Z and what is lasting later stands -/
structure WV (K : PySem.W.Frag) (J : It) (S : Src) (Z : Hp) (ds : List PyData) : Prop where
  w : ∃ (G : Hp → Prop) (Y : Nat → Hp → V → Hp → Prop), Walk J ds.length G Y ∧ (∀ R Z' H, Same Z Z' → Good R Z' S H → G H) ∧
    ∀ i R Z' H x H', i < ds.length → Same Z Z' → Good R Z' S H → Y i H x H' → ∃ d Z2, ds[i]? = some d ∧ Step R Z' S H Z2 H' ∧ Rp K Z2 x d
/-- the reading of what is walked -/
abbrev MW := Ev → Tr (List PyData × Ev)
def RW (K : PySem.W.Frag) (m : MW) : TI := fun σ H Q => ∃ R Z S env, SR K R Z S H σ env ∧ (m env).all fun y => ∀ J Z' H', Same Z Z' → SR K R Z' S H' σ y.2 → WV K J S Z' y.1 → Q J H'
abbrev VWk (X : Cx) (tg e : Expr) (m : MW) : Prop := PI X tg e (RW X.K m)
def sFor (m : MW) (g : MTg) (body : MS) : MS := fun env => (m env).bind fun x => forD g body x.1 x.2
theorem forD_fl {g : MTg} {body : MS} {P : Fl × Ev → Prop} {d : PyData} {ds : List PyData} {env : Ev} (h : (forD g body (d :: ds) env).all P) :
    (g (.imm d) env).all fun env1 => (body env1).all fun x => match x.1 with
      | .nx => (forD g body ds x.2).all P
      | .ct => (forD g body ds x.2).all P
      | .bk => P (.nx, x.2)
      | .rt s => P (.rt s, x.2) := by
  refine all_mono (fun env1 h => all_mono (fun x h => ?_) (all_bind.mp h)) (all_bind.mp h)
  cases hx : x.1 with
  | nx => rw [hx] at h; exact h
  | ct => rw [hx] at h; exact h
  | bk => rw [hx] at h; exact h
  | rt s => rw [hx] at h; exact h
section
variable {X : Cx} {tg iter : Expr} {body : List Stmt} {mw : MW} {g : MTg} {mb : MS} {pos : Pos}
theorem vs_for (hi : VWk X tg iter mw) (hg : VTg X tg g) (hb : VSs X body mb) (hc : X.calm = true) (hp : PassesOwn (model X.prog X.w) X.A X.env X.xe) (hs : ∀ x, foldedSetIterable iter X.env x = pure x := by intro _; rfl) :
    VS X (.For tg iter body [] pos) (sFor mw g mb) := ps_weak (ps_for hp hc hi hg hb hs) fun D σ H ⟨R, Z, S, env, s, k⟩ => by
  refine ⟨R, Z, S, env, s, all_mono (fun y k J Z1 H1 e1 s1 w => ?_) (all_bind.mp k)⟩
  obtain ⟨G, Y, wk, hG, hY⟩ := w.w
  -- the end's wish, from any state
  let P : Fl × Ev → Prop := fun y => ∀ σ' Z' H', Same Z Z' → SR X.K R Z' S H' σ' y.2 → match y.1 with
    | .nx => D.nx σ' H'
    | .bk => D.bk σ' H'
    | .ct => D.ct σ' H'
    | .rt s => ∀ v, Res X.K R Z' S H' [] [] v s → D.rt v H'
  refine for_it wk (fun i σ' H' => ∃ Z' env', Same Z1 Z' ∧ SR X.K R Z' S H' σ' env' ∧ (forD g mb (y.1.drop i) env').all P) ⟨Z1, y.2, Same.refl _, s1, k⟩ (fun i σ' H' hi ⟨Z', env', e, s', _⟩ => hG R Z' H' e s'.g) ?_ ?_
  · rintro i x σ' H' H2 hi ⟨Z', env', e, s', q⟩ yy
    obtain ⟨d, Z2, hd, st, r⟩ := hY i R Z' H' x H2 hi e s'.g yy
    have e0 : y.1.drop i = d :: y.1.drop (i + 1) := by
      obtain ⟨hl, e⟩ := List.getElem?_eq_some_iff.mp hd
      rw [← e]
      exact List.drop_eq_getElem_cons hl
    rw [e0] at q
    refine ⟨R, Z2, S, env', .imm d, s'.step st, ⟨r, (fun z => nomatch z), (fun z => nomatch z)⟩, all_mono (fun env1 q σ3 Z3 H3 e3 s3 => ?_) (forD_fl q)⟩
    refine ⟨R, Z3, S, env1, s3, all_mono (fun z q σ4 Z4 H4 e4 s4 => ?_) q⟩
    have em : Same Z1 Z4 := ((e.trans st.e).trans e3).trans e4
    cases hz : z.1 with
    | nx => rw [hz] at q; exact ⟨Z4, z.2, em, s4, q⟩
    | ct => rw [hz] at q; exact ⟨Z4, z.2, em, s4, q⟩
    | bk => rw [hz] at q; exact q σ4 Z4 H4 (e1.trans em) s4
    | rt t => rw [hz] at q; exact q σ4 Z4 H4 (e1.trans em) s4
  · rintro σ' H' ⟨Z', env', e, s', q⟩
    rw [List.drop_length] at q
    exact q σ' Z' H' (e1.trans e) s'
end
/-! ### while: at most n turns -/
def whileD (c : MT) (body : MS) : Nat → Ev → Tr (Fl × Ev)
  | 0, _ => .bad
  | n + 1, env => (c env).bind fun b => if b.1 = true then (body b.2).bind fun x => match x.1 with
    | .nx => whileD c body n x.2
    | .ct => whileD c body n x.2
    | .bk => .ret (.nx, x.2)
    | .rt s => .ret (.rt s, x.2) else .ret (.nx, b.2)
def sWhile (n : Nat) (c : MT) (body : MS) : MS := whileD c body n
section
variable {X : Cx} {c : Expr} {body : List Stmt} {p : Bool} {tc : MT} {mb : MS} {pos : Pos}
theorem vs_while (n : Nat) (hc : VT X p c tc) (hb : VSs X body mb) (hp : PassesOwn (model X.prog X.w) X.A X.env X.xe) : VS X (.While c body [] pos) (sWhile n tc mb) := ps_weak (ps_while hp hc hb) fun D σ H ⟨R, Z, S, env, s, k⟩ => by
  let P : Fl × Ev → Prop := fun y => ∀ σ' Z' H', Same Z Z' → SR X.K R Z' S H' σ' y.2 → match y.1 with
    | .nx => D.nx σ' H'
    | .bk => D.bk σ' H'
    | .ct => D.ct σ' H'
    | .rt s => ∀ v, Res X.K R Z' S H' [] [] v s → D.rt v H'
  refine ⟨fun m σ' H' => ∃ Z' env', Same Z Z' ∧ SR X.K R Z' S H' σ' env' ∧ (whileD tc mb m env').all P, ⟨n, Z, env, Same.refl _, s, k⟩, ?_⟩
  rintro m σ' H' ⟨Z', env', e, s', q⟩
  cases m with
  | zero => exact q.elim
  | succ m =>
    refine ⟨R, Z', S, env', s', all_mono (fun b q Z1 H1 e1 st1 s1 => ?_) (all_bind.mp q)⟩
    dsimp only
    split
    · rename_i hb1
      rw [if_pos hb1] at q
      refine ⟨fun σ2 H2 => ∃ Z2 env2, Same Z Z2 ∧ SR X.K R Z2 S H2 σ2 env2 ∧ (whileD tc mb m env2).all P, fun σ2 H2 h => ⟨m, Nat.lt_succ_self m, h⟩, R, Z1, S, b.2, s1, all_mono (fun z q σ4 Z4 H4 e4 s4 => ?_) (all_bind.mp q)⟩
      have em : Same Z Z4 := (e.trans e1).trans e4
      cases hz : z.1 with
      | nx => rw [hz] at q; exact ⟨Z4, z.2, em, s4, q⟩
      | ct => rw [hz] at q; exact ⟨Z4, z.2, em, s4, q⟩
      | bk => rw [hz] at q; exact q σ4 Z4 H4 em s4
      | rt t => rw [hz] at q; exact q σ4 Z4 H4 em s4
    · rename_i hb1
      rw [if_neg hb1] at q
      exact q σ' Z1 H1 (e.trans e1) s1
end
end PV

set_option Elab.async false
set_option linter.all false
set_option autoImplicit false
set_option maxRecDepth 100000
/-! PV7: what is walked; comprehensions. -/
namespace PV
open PySem PySem.Spec L2

/-! ### a list or a tuple -/
section
variable {X : Cx} {tg l : Expr} {tl : TE}
theorem pi_seq (hl : PE X l tl) : PI X tg l fun σ H R => tl σ H fun x H1 => ∃ a, x = .ref a ∧ ((∃ xs, SqL X.K H1 a xs ∧ R (Itl X.K a) H1) ∨ ∃ xs, SqT X.K H1 a xs ∧ R (Itt X.K a) H1) := by
  refine ⟨fun pins s σ H R I h => thn (hl.run pins s σ H _ I h) fun v s1 ⟨x, H1, I1, r1, a, e, q⟩ => ?_⟩
  subst e
  cases r1
  have fp : ∀ b ∈ [s1.heap.objs.size], FpOk X pins H1 b := fun b hb => by
    obtain rfl : b = s1.heap.objs.size := by simpa using hb
    exact I1.fpOk (Nat.le_refl _) (I1.hok.fresh (Nat.le_refl _))
  rcases q with ⟨xs, hq, q⟩ | ⟨xs, hq, q⟩
  · obtain ⟨its, _, p, _⟩ := I1.list hq
    exact wpAny_pyIter_list p.isList ⟨_, _, _, _, H1, rfl, I1.kept (t' := s1.toks) fun b o e => Heap.get?_push_of_some _ e, turn_list a _, ⟨_, Heap.get?_push_size _ rfl, rfl, rfl⟩, fp, q⟩
  · obtain ⟨its, _, p, _⟩ := I1.tuple hq
    exact wpAny_pyIter_tuple (show s1.heap.IsTuple a its.toArray from p) ⟨_, _, _, _, H1, rfl, I1.kept (t' := s1.toks) fun b o e => Heap.get?_push_of_some _ e, turn_tuple a _, ⟨_, Heap.get?_push_size _ rfl, rfl, rfl⟩, fp, q⟩
end
def seq? : PyData → Tr (List PyData)
  | .list ds => .ret ds
  | .tuple ds => .ret ds
  | _ => .bad
def wSeq (m : MI) : MW := fun env => (m env).bind fun x => (seq? x.1).bind fun ds => .ret (ds, x.2)
def rangeD (lo hi : Int) : List PyData := (List.range (hi - lo).toNat).map fun i => .int (lo + (i : Nat))
def wRange1 (a : MI) : MW := fun env => (a env).bind fun x => (int? x.1).bind fun j => ok (-1000000000 ≤ j ∧ j ≤ 1000000000) (.ret (rangeD 0 j, x.2))
def wRange2 (a b : MI) : MW := fun env => (a env).bind fun x => (b x.2).bind fun y => (int? x.1).bind fun i => (int? y.1).bind fun j =>
  ok (-1000000000 ≤ i ∧ i ≤ 1000000000 ∧ -1000000000 ≤ j ∧ j ≤ 1000000000) (.ret (rangeD i j, y.2))
section
variable {X : Cx} {K : PySem.W.Frag} {R Z Z' : Hp} {S : Src} {H H' : Hp} {σ : L2.St} {env : Ev} {tg l a b : Expr} {p q : Bool} {m ma mb : MI} {ps pos : Pos}
theorem wv_list {a : Addr} {vs : List V} {ds : List PyData} (h : Z a = some (.lst vs)) (r : RpAll K Z vs ds) : WV K (Itl K a) S Z ds := by
  refine ⟨fun H => SqL K H a vs, YAt vs, by rw [← r.length]; exact walk_list, fun R Z' H e g => .of (g.z _ _ (e _ _ h)), fun i R Z' H x H' hi e g y => ?_⟩
  obtain ⟨rfl, hx⟩ := y
  obtain ⟨d, hd, rd⟩ := r.get hx
  exact ⟨d, Z', hd, Step.refl g, rd.mono e⟩
theorem wv_tup {a : Addr} {vs : List V} {ds : List PyData} (h : TupZ Z a vs ds) (r : RpAll K Z vs ds) : WV K (Itt K a) S Z ds := by
  refine ⟨fun H => SqT K H a vs, YAt vs, by rw [← r.length]; exact walk_tup, fun R Z' H e g => ((h.mono e).mono g.z).sq, fun i R Z' H x H' hi e g y => ?_⟩
  obtain ⟨rfl, hx⟩ := y
  obtain ⟨d, hd, rd⟩ := r.get hx
  exact ⟨d, Z', hd, Step.refl g, rd.mono e⟩
theorem rangeD_length (lo hi : Int) : (rangeD lo hi).length = (hi - lo).toNat := by unfold rangeD; simp
theorem wv_range {lo hi : Int} : WV K (Itr lo (hi - lo).toNat) S Z (rangeD lo hi) := by
  refine ⟨fun _ => True, YFn fun i => .int (lo + i), by rw [rangeD_length]; exact walk_range, fun _ _ _ _ _ => trivial, fun i R Z' H x H' hi' e g y => ?_⟩
  obtain ⟨rfl, rfl⟩ := y
  refine ⟨.int (lo + i), Z', ?_, Step.refl g, .int _⟩
  rw [rangeD_length] at hi'
  unfold rangeD
  rw [List.getElem?_map, List.getElem?_range hi']
  rfl
theorem vw_seq (h : VI X p l m) : VWk X tg l (wSeq m) := ⟨fun pins s σ H Q I hw => (pi_seq (tg := tg) h).run pins s σ H Q I (by
  obtain ⟨R, Z, S, env, s, k⟩ := hw
  refine ⟨R, Z, S, env, s, all_mono (fun y k v Z1 H1 e1 st1 s1 r1 => ?_) (all_bind.mp k)⟩
  cases hy : y.1 with
  | list ds =>
    rw [hy] at k r1
    obtain ⟨a, vs, rfl, ha, ra⟩ : ∃ a vs, v = .ref a ∧ Z1 a = some (.lst vs) ∧ RpAll X.K Z1 vs ds := by
      cases r1 with
      | lst h q => exact ⟨_, _, rfl, h, q⟩
    exact ⟨a, rfl, .inl ⟨vs, .of (s1.g.z _ _ ha), k _ Z1 H1 e1 s1 (wv_list ha ra)⟩⟩
  | tuple ds =>
    rw [hy] at k r1
    obtain ⟨a, vs, rfl, ha, ra⟩ : ∃ a vs, v = .ref a ∧ TupZ Z1 a vs ds ∧ RpAll X.K Z1 vs ds := by
      cases r1 with
      | tup h q => exact ⟨_, _, rfl, h, q⟩
    exact ⟨a, rfl, .inr ⟨vs, (ha.mono s1.g.z).sq, k _ Z1 H1 e1 s1 (wv_tup ha ra)⟩⟩
  | _ => rw [hy] at k; exact k.elim)⟩
theorem pi_weak {w w' : TI} (h : PI X tg l w) (hw : ∀ σ H R, w' σ H R → w σ H R) : PI X tg l w' := ⟨fun pins s σ H R I q => h.run pins s σ H R I (hw σ H R q)⟩
theorem vw_range1 (ha : VI X p a ma) (hg : Gl X "range") (hm : X.mg "range" = none) (hs : starEach [a] X.env = [(false, eval a X.env)] := by rfl) : VWk X tg (.Call (.Name "range" ps) [a] [] pos) (wRange1 ma) :=
  pi_weak (pi_range1 hg hm (pa_cons ha pa_nil hs) hs) fun σ H Q ⟨R, Z, S, env, s, k⟩ => by
    refine ⟨R, Z, S, env, s, all_mono (fun y k v Z1 H1 e1 st1 s1 r1 => ?_) (all_bind.mp k)⟩
    obtain ⟨j, hj, k⟩ := int?_all (all_bind.mp k)
    obtain ⟨⟨b1, b2⟩, k⟩ := ok_all k
    rw [hj] at r1
    cases r1
    refine ⟨j, rfl, by omega, by omega, ?_⟩
    have e0 : j.toNat = (j - 0).toNat := by omega
    rw [e0]
    exact k _ Z1 H1 e1 s1 wv_range
theorem vw_range2 (ha : VI X p a ma) (hb : VI X q b mb) (hg : Gl X "range") (hm : X.mg "range" = none) (hs : starEach [a, b] X.env = [(false, eval a X.env), (false, eval b X.env)] := by rfl) (hs2 : starEach [b] X.env = [(false, eval b X.env)] := by rfl)
    (hs3 : starEach [a, b] X.env = (false, eval a X.env) :: starEach [b] X.env := by rfl) (hs4 : starEach [b] X.env = (false, eval b X.env) :: starEach [] X.env := by rfl) : VWk X tg (.Call (.Name "range" ps) [a, b] [] pos) (wRange2 ma mb) :=
  pi_weak (pi_range2 hg hm (pa_cons ha (pa_cons hb pa_nil hs4) hs3) hs hs2) fun σ H Q ⟨R, Z, S, env, s, k⟩ => by
    refine ⟨R, Z, S, env, s, all_mono (fun y k v Z1 H1 e1 st1 s1 r1 => ?_) (all_bind.mp k)⟩
    refine ⟨R, Z1, S, y.2, s1, all_mono (fun z k w Z2 H2 e2 st2 s2 r2 => ?_) (all_bind.mp k)⟩
    obtain ⟨i, hi, k⟩ := int?_all (all_bind.mp k)
    obtain ⟨j, hj, k⟩ := int?_all (all_bind.mp k)
    obtain ⟨b1, k⟩ := ok_all k
    rw [hi] at r1
    rw [hj] at r2
    cases r1
    cases r2
    exact ⟨i, j, rfl, ⟨by omega, by omega, by omega, by omega⟩, k _ Z2 H2 (e1.trans e2) s2 wv_range⟩
end

/-! ### names as targets, the slots told -/
def setAll : L2.St → List Nat → List V → L2.St
  | σ, i :: is, v :: vs => setAll (σ.set i (some v)) is vs
  | σ, _, _ => σ
/-- one name, or a tuple of names -/
def gNames (K : PySem.W.Frag) (one : Bool) (is : List Nat) : TG := fun v σ H Q => if one = true then ∃ i, is = [i] ∧ Q (σ.set i (some v)) H else ∃ a xs, v = .ref a ∧ SqT K H a xs ∧ xs.length = is.length ∧ Q (setAll σ is xs) H
def gAll (is : List Nat) : TGs := fun vs σ H Q => vs.length = is.length ∧ Q (setAll σ is vs) H
section
variable {X : Cx} {x : Str} {pos px : Pos}
theorem ng_name (i : Nat) (hN : X.N.Nodup) (hi : X.N[i]? = some x := by rfl) (hx : Loc X.env.scope x := by first | exact Or.inl rfl | exact Or.inr rfl)
    (hf : X.fn x = true ∨ X.env.scope.names.lookup x = some .local := by first | exact .inl rfl | exact .inr rfl) : PG X (.Name x pos) (gNames X.K true [i]) :=
  pg_weak (pg_name hN hi hx hf) fun v σ H Q h => by
    unfold gNames at h
    rw [if_pos rfl] at h
    obtain ⟨j, e, q⟩ := h
    cases e
    exact q
theorem ngs_nil : PGs X [] (gAll []) := pgs_weak pgs_nil fun vs σ H Q ⟨h, q⟩ => by
  cases vs with
  | nil => exact ⟨rfl, q⟩
  | cons _ _ => cases h
theorem ngs_cons {es : List Expr} {is : List Nat} (i : Nat) (hN : X.N.Nodup) (h : PGs X es (gAll is)) (hi : X.N[i]? = some x := by rfl) (hx : Loc X.env.scope x := by first | exact Or.inl rfl | exact Or.inr rfl)
    (hf : X.fn x = true ∨ X.env.scope.names.lookup x = some .local := by first | exact .inl rfl | exact .inr rfl) : PGs X (.Name x px :: es) (gAll (i :: is)) :=
  pgs_weak (pgs_cons (pg_name hN hi hx hf) h) fun vs σ H Q ⟨h, q⟩ => by
    cases vs with
    | nil => cases h
    | cons v vs => exact ⟨v, vs, rfl, Nat.succ.inj h, q⟩
theorem ng_tup {es : List Expr} {n : Nat} {is : List Nat} (hc : X.calm = true) (h : PGs X es (gAll is)) (hl : (assignEach es X.env).length = is.length := by rfl) (hst : (assignEach es X.env).findIdx? (·.1) = none := by rfl) : PG X (.Tuple es n pos) (gNames X.K false is) :=
  pg_weak (pg_tup hc h hl hst) fun v σ H Q h => by
    unfold gNames at h
    rw [if_neg Bool.false_ne_true] at h
    obtain ⟨a, xs, e, hs, hn, q⟩ := h
    exact ⟨a, xs, e, hs, hn, hn, q⟩
end

/-! ### comprehensions -/
/-- the loop's names by value -/
def tgNames (one : Bool) (is : List Nat) (d : PyData) (env : Ev) : Tr Ev := if one = true then (match is with
  | [i] => .ret (env.set i (some (.imm d)))
  | _ => .bad) else match d with
  | .tuple ds => tgAll is ds env
  | _ => .bad
def wipeE : List Nat → Ev → Ev
  | [], env => env
  | i :: is, env => (wipeE is env).set i none
/-- the outer values of the loop's names come back -/
def restoreE (env0 : Ev) : List Nat → Ev → Ev
  | [], env => env
  | i :: is, env => match env0[i]? with
    | some (some (.imm d)) => (restoreE env0 is env).set i (some (.imm d))
    | some (some .src) => (restoreE env0 is env).set i (some .src)
    | _ => (restoreE env0 is env).set i none
def lcD (one : Bool) (is : List Nat) (tt : MT) (te : MI) : List PyData → Ev → Tr (List PyData × Ev)
  | [], env => .ret ([], env)
  | d :: ds, env => (tgNames one is d env).bind fun env1 => (tt env1).bind fun b => if b.1 = true then (te b.2).bind fun y => (lcD one is tt te ds (wipeE is y.2)).bind fun r => .ret (y.1 :: r.1, r.2)
    else lcD one is tt te ds (wipeE is b.2)
def tYes' : MT := fun env => .ret (true, env)
def mLc (mw : MW) (one : Bool) (is : List Nat) (tt : MT) (te : MI) : ME := fun env => (mw env).bind fun x => ok (x.1.length ≤ 1000000) ((lcD one is tt te x.1 (wipeE is x.2)).bind fun r => .ret (.lst r.1, restoreE x.2 is r.2))
section
variable {K : PySem.W.Frag} {R Z Z' : Hp} {S : Src} {H H' : Hp} {σ : L2.St} {env : Ev}
/-- a slot forgotten on both sides -/
theorem SR.dropB {i : Nat} (q : SR K R Z S H σ env) : SR K R Z S H (σ.set i none) (env.set i none) where
  g := q.g
  len := by rw [List.length_set, List.length_set]; exact q.len
  sl := fun j t h => by
    by_cases hj : i = j
    · subst hj
      by_cases hl : i < env.length
      · rw [List.getElem?_set_self hl] at h; cases h
      · rw [List.getElem?_eq_none (by simpa using hl)] at h; cases h
    · rw [List.getElem?_set_ne hj] at h
      obtain ⟨v, h1, h2⟩ := q.sl j t h
      exact ⟨v, by rw [List.getElem?_set_ne hj]; exact h1, h2⟩
  ds := fun j k t u w hjk h1 h2 o1 o2 e1 e2 => by
    have nj : i ≠ j := fun z => by
      subst z
      by_cases hl : i < env.length
      · rw [List.getElem?_set_self hl] at h1; cases h1
      · rw [List.getElem?_eq_none (by simpa using hl)] at h1; cases h1
    have nk : i ≠ k := fun z => by
      subst z
      by_cases hl : i < env.length
      · rw [List.getElem?_set_self hl] at h2; cases h2
      · rw [List.getElem?_eq_none (by simpa using hl)] at h2; cases h2
    rw [List.getElem?_set_ne nj] at h1 e1
    rw [List.getElem?_set_ne nk] at h2 e2
    exact q.ds j k t u w hjk h1 h2 o1 o2 e1 e2
theorem SR.wipe (q : SR K R Z S H σ env) : ∀ is : List Nat, SR K R Z S H (L2.wipe σ is) (wipeE is env)
  | [] => q
  | i :: is => (q.wipe is).dropB
/-- slots filled up outside -/
theorem SR.fill {i : Nat} {o : Option V} (q : SR K R Z S H (σ.set i none) env) (ho : σ[i]? = some o) (n : env[i]? = some none) : SR K R Z S H σ env where
  g := q.g
  len := by have := q.len; rw [List.length_set] at this; exact this
  sl := fun j t h => by
    have nj : i ≠ j := fun z => by subst z; rw [n] at h; cases h
    obtain ⟨v, h1, h2⟩ := q.sl j t h
    rw [List.getElem?_set_ne nj] at h1
    exact ⟨v, h1, h2⟩
  ds := fun j k t u w hjk h1 h2 o1 o2 e1 e2 => by
    have nj : i ≠ j := fun z => by subst z; rw [n] at h1; cases h1
    have nk : i ≠ k := fun z => by subst z; rw [n] at h2; cases h2
    exact q.ds j k t u w hjk h1 h2 o1 o2 (by rw [List.getElem?_set_ne nj]; exact e1) (by rw [List.getElem?_set_ne nk]; exact e2)
theorem wipe_get : ∀ (is : List Nat) {j : Nat}, j ∉ is → (L2.wipe σ is)[j]? = σ[j]?
  | [], _, _ => rfl
  | i :: is, j, h => by
    show ((L2.wipe σ is).set i none)[j]? = _
    rw [List.getElem?_set_ne fun z => h (by simp [z])]
    exact wipe_get is fun z => h (by simp [z])
theorem wipeE_in : ∀ (is : List Nat) {j : Nat} {env : Ev}, j ∈ is → ∀ t, (wipeE is env)[j]? ≠ some (some t)
  | [], _, _, h, _, _ => by simp at h
  | i :: is, j, env, h, t, q => by
    have q : ((wipeE is env).set i none)[j]? = some (some t) := q
    by_cases hi : i = j
    · subst hi
      by_cases hl : i < (wipeE is env).length
      · rw [List.getElem?_set_self hl] at q; cases q
      · rw [List.getElem?_eq_none (by simpa using hl)] at q; cases q
    · rw [List.getElem?_set_ne hi] at q
      exact wipeE_in is (by
        rcases List.mem_cons.mp h with z | z
        · exact absurd z.symm hi
        · exact z) t q
/-- out of the block: the loop's names are forgotten, the others are as they were -/
theorem SR.unwipe {is : List Nat} (q : SR K R Z S H (L2.wipe σ is) env) (n : ∀ j ∈ is, ∀ t, env[j]? ≠ some (some t)) : SR K R Z S H σ env where
  g := q.g
  len := by have := q.len; rw [L2.wipe_length] at this; exact this
  sl := fun j t h => by
    have nj : j ∉ is := fun z => n j z t h
    obtain ⟨v, h1, h2⟩ := q.sl j t h
    rw [wipe_get is nj] at h1
    exact ⟨v, h1, h2⟩
  ds := fun j k t u w hjk h1 h2 o1 o2 e1 e2 => by
    have nj : j ∉ is := fun z => n j z t h1
    have nk : k ∉ is := fun z => n k z u h2
    exact q.ds j k t u w hjk h1 h2 o1 o2 (by rw [wipe_get is nj]; exact e1) (by rw [wipe_get is nk]; exact e2)
theorem SR.free {i : Nat} {v : V} {s : Sl} (q : SR K R Z S H σ env) (hv : σ[i]? = some (some v)) (hs : s.own = false) (r : RSl K Z S H v s) : SR K R Z S H σ (env.set i (some s)) := by
  have := q.setFree (i := i) hs r
  have e1 : σ.set i (some v) = σ := by
    obtain ⟨hl, e⟩ := List.getElem?_eq_some_iff.mp hv
    rw [← e]; exact List.set_getElem_self hl
  rw [e1] at this
  exact this
theorem SR.restore {R0 Z0 H0 : Hp} {env0 : Ev} (q0 : SR K R0 Z0 S H0 σ env0) (e : Same Z0 Z) : ∀ (is : List Nat) {env : Ev}, SR K R Z S H σ env → SR K R Z S H σ (restoreE env0 is env)
  | [], _, q => q
  | i :: is, env, q => by
    have ih := SR.restore q0 e is q
    unfold restoreE
    split
    · rename_i d hd
      obtain ⟨v, h1, h2, _⟩ := q0.sl i _ hd
      exact ih.free h1 rfl (show Rp K Z v d from Rp.mono e h2)
    · rename_i hd
      obtain ⟨v, h1, h2, _⟩ := q0.sl i _ hd
      exact ih.free h1 rfl h2
    · exact ih.drop
/-- a reserved thing is changed -/
theorem SR.turn {D : Addr} {o o' : HO} (q : SR K (upd R D o) Z S H σ env) (no : ∀ xs, o' ≠ HO.tup xs := by intro _ z; cases z) : SR K (upd R D o') Z S (upd H D o') σ env := by
  have hD : Z D = none := q.g.rz D o upd_same
  have hS : ¬ inS S D := fun n => by
    have := (q.g.rs D n).1
    rw [upd_same] at this
    cases this
  have nr : ∀ x, (upd R D o) x = none ↔ (upd R D o') x = none := fun x => by
    by_cases hx : x = D
    · subst hx; rw [upd_same, upd_same]; simp
    · rw [upd_ne hx, upd_ne hx]
  refine ⟨⟨fun x u h => ?_, fun x u h => ?_, q.g.s.other hS, fun x u h => ?_, fun x n => ⟨(nr x).mp (q.g.rs x n).1, (q.g.rs x n).2⟩, fun x xs e => by
    by_cases hx : x = D
    · subst hx; rw [upd_same] at e; exact absurd (Option.some.inj e) (no xs)
    · rw [upd_ne hx] at e; exact q.g.tz x xs e⟩, q.len, fun j t h => ?_, q.ds⟩
  · by_cases hx : x = D
    · subst hx; rw [upd_same] at h ⊢; exact h
    · rw [upd_ne hx] at h ⊢; exact q.g.r x u (by rw [upd_ne hx]; exact h)
  · have hx : x ≠ D := fun z => by subst z; rw [hD] at h; cases h
    rw [upd_ne hx]; exact q.g.z x u h
  · by_cases hx : x = D
    · subst hx; exact hD
    · rw [upd_ne hx] at h; exact q.g.rz x u (by rw [upd_ne hx]; exact h)
  · obtain ⟨v, h1, h2, h3⟩ := q.sl j t h
    refine ⟨v, h1, h2.mono (Same.refl _) fun a ha ho u hu => ?_, fun ho a ha => ?_⟩
    · have w := (h3 ho a ha).1
      have hx : a ≠ D := fun z => by subst z; rw [upd_same] at w; cases w
      rw [upd_ne hx]; exact hu
    · have w := h3 ho a ha
      exact ⟨(nr a).mp w.1, w.2⟩
/-- a new thing beside all is reserved -/
theorem SR.reserve {D : Addr} {o : HO} (q : SR K R Z S H σ env) (h : H D = none) (no : ∀ xs, o ≠ HO.tup xs := by intro _ z; cases z) : SR K (upd R D o) Z S (upd H D o) σ env := by
  have out := q.g.out h
  have n := q.new (o := o) h no
  refine ⟨⟨fun x u e => ?_, n.g.z, n.g.s, fun x u e => ?_, fun x m => ⟨?_, (q.g.rs x m).2⟩, n.g.tz⟩, q.len, fun j t hj => ?_, q.ds⟩
  · by_cases hx : x = D
    · subst hx; rw [upd_same] at e ⊢; exact e
    · rw [upd_ne hx] at e; exact n.g.r x u e
  · by_cases hx : x = D
    · subst hx; exact out.2.1
    · rw [upd_ne hx] at e; exact q.g.rz x u e
  · have hx : x ≠ D := fun z => by subst z; exact out.2.2 m
    rw [upd_ne hx]; exact (q.g.rs x m).1
  · obtain ⟨v, h1, h2, h3⟩ := n.sl j t hj
    refine ⟨v, h1, h2, fun ho a ha => ?_⟩
    have w := h3 ho a ha
    obtain ⟨v0, g1, g2, _⟩ := q.sl j t hj
    rw [h1] at g1
    cases g1
    obtain ⟨b, u, e, hb, _⟩ := g2.at ho
    rw [ha] at e
    cases e
    have hx : a ≠ D := ne_of_none hb h
    exact ⟨by rw [upd_ne hx]; exact w.1, w.2⟩
/-- it is handed out -/
theorem SR.hand {D : Addr} {vs : List V} {ds : List PyData} (q : SR K (upd R D (.lst vs)) Z S H σ env) (h : R D = none) (r : RpAll K Z vs ds) : SR K R Z S H σ env ∧ Res K R Z S H σ env (.ref D) (.lst ds) := by
  have hD : Z D = none := q.g.rz D _ upd_same
  have hH : H D = some (.lst vs) := q.g.r D _ upd_same
  have hS : ¬ inS S D := fun n => by
    have := (q.g.rs D n).1
    rw [upd_same] at this
    cases this
  have le : Same R (upd R D (.lst vs)) := Same.upd_new h
  have nr : ∀ x, (upd R D (.lst vs)) x = none → R x = none := fun x e => le.free e
  refine ⟨⟨⟨fun x u e => q.g.r x u (le x u e), q.g.z, q.g.s, fun x u e => q.g.rz x u (le x u e), fun x n => ⟨nr x (q.g.rs x n).1, (q.g.rs x n).2⟩, q.g.tz⟩, q.len, fun j t hj => ?_, q.ds⟩, ⟨⟨D, vs, rfl, hH, r⟩, fun _ a ha => ?_, fun _ j t hj ht e => ?_⟩⟩
  · obtain ⟨v, h1, h2, h3⟩ := q.sl j t hj
    exact ⟨v, h1, h2, fun ho a ha => ⟨nr a (h3 ho a ha).1, (h3 ho a ha).2⟩⟩
  · cases ha; exact ⟨h, hD, hS⟩
  · obtain ⟨v, h1, h2, h3⟩ := q.sl j t hj
    rw [h1] at e
    have e' : v = .ref D := Option.some.inj (Option.some.inj e)
    have w := (h3 ht D e').1
    rw [upd_same] at w
    cases w
theorem wipe_set : ∀ (is : List Nat) {σ : L2.St} {i : Nat} {o : Option V}, i ∈ is → L2.wipe (σ.set i o) is = L2.wipe σ is
  | [], _, _, _, h => by simp at h
  | j :: is, σ, i, o, h => by
    show (L2.wipe (σ.set i o) is).set j none = (L2.wipe σ is).set j none
    by_cases hi : i ∈ is
    · rw [wipe_set is hi]
    · have hj : i = j := by
        rcases List.mem_cons.mp h with z | z
        · exact z
        · exact absurd z hi
      subst hj
      have out : ∀ (is : List Nat) (σ : L2.St), i ∉ is → L2.wipe (σ.set i o) is = (L2.wipe σ is).set i o := by
        intro is
        induction is with
        | nil => intro σ _; rfl
        | cons k is ih =>
          intro σ hk
          show (L2.wipe (σ.set i o) is).set k none = ((L2.wipe σ is).set k none).set i o
          rw [ih σ fun z => hk (by simp [z])]
          exact List.set_comm _ _ fun z => hk (by simp [z])
      rw [out is σ hi, List.set_set]
theorem wipe_setAll {ks : List Nat} : ∀ (is : List Nat) (vs : List V) {σ : L2.St}, (∀ i ∈ is, i ∈ ks) → L2.wipe (setAll σ is vs) ks = L2.wipe σ ks
  | [], _, _, _ => by unfold setAll; rfl
  | i :: is, [], _, _ => rfl
  | i :: is, v :: vs, σ, h => by
    show L2.wipe (setAll (σ.set i (some v)) is vs) ks = _
    rw [wipe_setAll is vs fun j hj => h j (by simp [hj]), wipe_set ks (h i (by simp))]
theorem wipe_wipe : ∀ (is : List Nat) {ks : List Nat}, (∀ i ∈ is, i ∈ ks) → L2.wipe (L2.wipe σ is) ks = L2.wipe σ ks
  | [], _, _ => rfl
  | i :: is, ks, h => by
    show L2.wipe ((L2.wipe σ is).set i none) ks = _
    rw [wipe_set ks (h i (by simp)), wipe_wipe is fun j hj => h j (by simp [hj])]
theorem sr_tgAll : ∀ (is : List Nat) (ds : List PyData) (vs : List V) {σ : L2.St} {env env' : Ev}, SR K R Z S H σ env → RpAll K Z vs ds → tgAll is ds env = .ret env' → SR K R Z S H (setAll σ is vs) env'
  | [], [], _, σ, env, env', q, r, h => by
    cases r
    cases h
    exact q
  | [], _ :: _, _, _, _, _, _, _, h => by cases h
  | _ :: _, [], _, _, _, _, _, _, h => by cases h
  | i :: is, d :: ds, _, σ, env, env', q, r, h => by
    cases r with
    | cons r1 r2 => exact sr_tgAll is ds _ (q.setFree (i := i) (s := .imm d) rfl r1) r2 h
theorem tgAll_all : ∀ (is : List Nat) (ds : List PyData) {env : Ev} {P : Ev → Prop}, (tgAll is ds env).all P → ∃ env', tgAll is ds env = .ret env' ∧ P env' ∧ is.length = ds.length
  | [], [], env, _, h => ⟨env, rfl, h, rfl⟩
  | [], _ :: _, _, _, h => h.elim
  | _ :: _, [], _, _, h => h.elim
  | i :: is, d :: ds, env, _, h => by
    obtain ⟨env', e, h, l⟩ := tgAll_all is ds (env := env.set i (some (.imm d))) h
    exact ⟨env', e, h, congrArg (· + 1) l⟩
/-- the names of a turn are stored -/
theorem tgNames_run {one : Bool} {is : List Nat} {d : PyData} {v : V} {P : Ev → Prop} (q : SR K R Z S H σ env) (r : Rp K Z v d) (h : (tgNames one is d env).all P) :
    ∃ σ' env', (∀ Q : L2.St → Hp → Prop, Q σ' H → gNames K one is v σ H Q) ∧ SR K R Z S H σ' env' ∧ P env' ∧ L2.wipe σ' is = L2.wipe σ is := by
  unfold tgNames at h
  split at h
  · rename_i ho
    subst ho
    split at h
    · rename_i i
      exact ⟨_, _, fun Q hq => ⟨i, rfl, hq⟩, q.setFree (i := i) (s := .imm d) rfl r, h, wipe_set [i] (by simp)⟩
    · exact h.elim
  · rename_i ho
    have ho : one = false := by simpa using ho
    subst ho
    split at h
    · rename_i ds
      cases r with
      | tup ha ra =>
        obtain ⟨env', e, h, l⟩ := tgAll_all is ds h
        exact ⟨_, env', fun Q hq => ⟨_, _, rfl, (ha.mono q.g.z).sq, by rw [ra.length, l], hq⟩, sr_tgAll is ds _ q ra e, h, wipe_setAll is _ fun i hi => hi⟩
    · exact h.elim
end
/-- tests behind a comprehension's for -/
abbrev VTs (X : Cx) (ifs : List Expr) (m : MT) : Prop := PTs X ifs (RT X.K false m)
section
variable {X : Cx}
theorem rt_weak {K : PySem.W.Frag} {p : Bool} {m : MT} {σ : L2.St} {H : Hp} {Q : Bool → Hp → Prop} (h : RT K false m σ H Q) : RT K p m σ H Q := by
  obtain ⟨R, Z, S, env, s, k⟩ := h
  exact ⟨R, Z, S, env, s, all_mono (fun y k Z' H' e st s' => k Z' H' e (fun z => nomatch z) s') k⟩
theorem vts_nil : VTs X [] tYes' := ⟨fun pins s σ H Q I ⟨R, Z, S, env, s', k⟩ => pts_nil.run pins s σ H Q I (k Z H (Same.refl Z) (fun z => nomatch z) s')⟩
theorem vts_one {p : Bool} {c : Expr} {m : MT} (h : VT X p c m) : VTs X [c] m := pts_one (pt_weak h fun _ _ _ q => rt_weak q)
end
section
variable {X : Cx} {elt tg iter : Expr} {ifs : List Expr} {scope : Scope} {own : List (Str × Nat)} {pos : Pos} {mw : MW} {one p : Bool} {tt : MT} {te : MI}
/-- the reading of a comprehension, by value; at its end it is handed to Q -/
theorem lc_run {K : PySem.W.Frag} {is : List Nat} {σ : L2.St} {H : Hp} {Q : VK} (h : RD K false (mLc mw one is tt te) σ H Q) :
    tLc (RW K mw) (gNames K one is) (RT K false tt) (RI K p te) is σ H Q := by
  obtain ⟨R, Z, S, env, s, k⟩ := h
  refine ⟨R, Z, S, env, s, all_mono (fun y k J Z1 H1 e1 s1 w D hD => ?_) (all_bind.mp k)⟩
  obtain ⟨hl, k⟩ := ok_all k
  obtain ⟨G, Y, wk, hG, hY⟩ := w.w
  have rD : R D = none := s1.g.r.free hD
  let P : List PyData → List PyData × Ev → Prop := fun acc r => ∀ v Z' H', Same Z Z' → SR K R Z' S H' σ (restoreE y.2 is r.2) → Res K R Z' S H' σ (restoreE y.2 is r.2) v (.lst (acc ++ r.1)) → Q v H'
  have k0 : (lcD one is tt te y.1 (wipeE is y.2)).all (P []) := all_mono (fun r k v Z' H' e s' q => k v Z' H' e (fun z => nomatch z) s' q) (all_bind.mp k)
  refine lc_it wk (fun i H' => ∃ Z' env' acc vs, Same Z1 Z' ∧ SR K (upd R D (.lst vs)) Z' S H' (L2.wipe σ is) env' ∧ (∀ j ∈ is, ∀ t, env'[j]? ≠ some (some t)) ∧ RpAll K Z' vs acc ∧ acc.length ≤ i ∧ (lcD one is tt te (y.1.drop i) env').all (P acc)) ?_ (fun i H' hi ⟨Z', env', acc, vs, e, s', _⟩ => hG _ Z' H' e s'.g) ?_ ?_
  · exact ⟨Z1, wipeE is y.2, [], [], Same.refl _, (s1.wipe is).reserve hD, fun j hj => wipeE_in is hj, .nil, Nat.le_refl 0, k0⟩
  · rintro i x H' H2 hi ⟨Z', env', acc, vs, e, s', hn, ra, la, q⟩ yy
    obtain ⟨d, Z2, hd, st, r⟩ := hY i _ Z' H' x H2 hi e s'.g yy
    have e0 : y.1.drop i = d :: y.1.drop (i + 1) := by
      obtain ⟨hl, e⟩ := List.getElem?_eq_some_iff.mp hd
      rw [← e]
      exact List.drop_eq_getElem_cons hl
    rw [e0] at q
    obtain ⟨σ2, env2, hg, s2, q, hw⟩ := tgNames_run (s'.step st) r (all_bind.mp q)
    refine hg _ ⟨by rw [hw]; exact wipe_wipe is fun j hj => hj, ?_⟩
    have w0 : L2.wipe σ2 is = L2.wipe σ is := by rw [hw]; exact wipe_wipe is fun j hj => hj
    refine ⟨_, Z2, S, env2, s2, all_mono (fun b q Z3 H3 e3 st3 s3 => ?_) (all_bind.mp q)⟩
    dsimp only
    split
    · rename_i hb
      rw [if_pos hb] at q
      refine ⟨_, Z3, S, b.2, s3, all_mono (fun z q v4 Z4 H4 e4 st4 s4 r4 => ?_) (all_bind.mp q)⟩
      have em : Same Z1 Z4 := ((e.trans st.e).trans e3).trans e4
      have ra4 : RpAll K Z4 vs acc := ra.mono ((st.e.trans e3).trans e4)
      refine ⟨vs, s4.g.r D _ upd_same, line_lt (by rw [ra4.length]; omega), Z4, wipeE is z.2, acc ++ [z.1], vs ++ [v4], em, ?_, fun j hj => wipeE_in is hj, ra4.append (.cons r4 .nil), by rw [List.length_append]; show acc.length + 1 ≤ i + 1; omega, ?_⟩
      · have := (s4.wipe is).turn (o' := .lst (vs ++ [v4]))
        rw [w0] at this
        exact this
      · refine all_mono (fun r q v Z' H' e s' hr => ?_) (all_bind.mp q)
        have q : P acc (z.1 :: r.1, r.2) := q
        refine q v Z' H' e s' ?_
        rw [List.append_assoc] at hr
        exact hr
    · rename_i hb
      rw [if_neg hb] at q
      refine ⟨Z3, wipeE is b.2, acc, vs, (e.trans st.e).trans e3, ?_, fun j hj => wipeE_in is hj, ra.mono (st.e.trans e3), Nat.le_succ_of_le la, q⟩
      have := s3.wipe is
      rw [w0] at this
      exact this
  · rintro H' ⟨Z', env', acc, vs, e, s', hn, ra, la, q⟩
    rw [List.drop_length] at q
    have q : P acc ([], env') := q
    obtain ⟨h1, h2⟩ := (s1.restore e is (s'.unwipe hn)).hand rD ra
    refine q (.ref D) Z' H' (e1.trans e) h1 ?_
    rw [List.append_nil]
    exact h2
theorem ve_lc (hc : X.calm = true) (hN : X.N.Nodup) (hi : VWk X tg iter mw) (ok : BlkOk X.N X.env.scope scope own)
    (hg : ∀ (s : Shared) (H : Hp) (C : Addr) (cl : List (Str × Addr)) (fp : List Addr), PG (X.blk s H scope (compEnvC scope cl C X.env) fp) tg (gNames X.K one (own.map (·.2))))
    (ht : ∀ (s : Shared) (H : Hp) (C : Addr) (cl : List (Str × Addr)) (fp : List Addr), VTs (X.blk s H scope (compEnvC scope cl C X.env) fp) ifs tt)
    (he : ∀ (s : Shared) (H : Hp) (C : Addr) (cl : List (Str × Addr)) (fp : List Addr), VI (X.blk s H scope (compEnvC scope cl C X.env) fp) p elt te) (hs : ∀ x, foldedSetIterable iter X.env x = pure x := by intro _; rfl) :
    VE X false (.ListComp elt [⟨tg, iter, ifs, 0⟩] scope pos) (mLc mw one (own.map (·.2)) tt te) :=
  pe_weak (pe_lc hc hN hi ok hg ht he hs) fun σ H Q h => lc_run h
end
end PV

set_option Elab.async false
set_option linter.all false
set_option autoImplicit false
set_option maxRecDepth 100000
/-! PV8: lists that change, pairs of stores, operators with a store. -/
namespace PV
open PySem PySem.Spec L2

section
variable {K : PySem.W.Frag} {R Z Z' : Hp} {S : Src} {H H' : Hp} {σ : L2.St} {env : Ev}
/-- where a slot's own list stands -/
theorem SR.lstAt {i : Nat} {ds : List PyData} (s : SR K R Z S H σ env) (h : env[i]? = some (some (.lst ds))) : ∃ a vs, σ[i]? = some (some (.ref a)) ∧ H a = some (.lst vs) ∧ RpAll K Z vs ds := by
  obtain ⟨v, h1, h2, h3⟩ := s.sl i _ h
  obtain ⟨a, vs, rfl, ha, hr⟩ := h2
  exact ⟨a, vs, h1, ha, hr⟩
theorem SR.lstTo {i : Nat} {a : Addr} {vs' : List V} {ds ds' : List PyData} (s : SR K R Z S H σ env) (h : env[i]? = some (some (.lst ds))) (hv : σ[i]? = some (some (.ref a))) (r : RpAll K Z vs' ds') :
    SR K R Z S (upd H a (.lst vs')) σ (env.set i (some (.lst ds'))) := s.mut h rfl hv ⟨a, vs', rfl, upd_same, r⟩
end

/-! ### x.append(e), x.extend(e), x.pop(), x.pop(e) -/
def mAppend (i : Nat) (me : MI) : ME := fun env => match env[i]? with
  | some (some (.lst _)) => (me env).bind fun x => match x.2[i]? with
    | some (some (.lst ds)) => ok (ds.length < 1000000) (.ret (.imm .none, x.2.set i (some (.lst (ds ++ [x.1])))))
    | _ => .bad
  | _ => .bad
def mExtend (i : Nat) (me : MI) : ME := fun env => match env[i]? with
  | some (some (.lst _)) => (me env).bind fun x => match x.2[i]?, x.1 with
    | some (some (.lst ds)), .list es => ok (ds.length + es.length ≤ 1000000) (.ret (.imm .none, x.2.set i (some (.lst (ds ++ es)))))
    | _, _ => .bad
  | _ => .bad
def mPop (i : Nat) : MI := fun env => match env[i]? with
  | some (some (.lst ds)) => match ds[ds.length - 1]? with
    | some d => .ret (d, env.set i (some (.lst ds.dropLast)))
    | none => .bad
  | _ => .bad
def mPopAt (i : Nat) (me : MI) : MI := fun env => match env[i]? with
  | some (some (.lst _)) => (me env).bind fun x => (int? x.1).bind fun k => match x.2[i]? with
    | some (some (.lst ds)) => ok (-1000000000 ≤ k ∧ k ≤ 1000000000) (match ixN ds.length k with
      | some j => match ds[j]? with
        | some d => .ret (d, x.2.set i (some (.lst (ds.eraseIdx j))))
        | none => .bad
      | none => .bad)
    | _ => .bad
  | _ => .bad
section
variable {X : Cx} {o e : Expr} {p : Bool} {me : MI} {apos cpos : Pos}
theorem ve_append {i : Nat} (ho : PE X o (tVar i)) (he : VI X p e me)
    (hbase : attributeBase o "append" X.env (eval o X.env) = eval o X.env := by rfl)
    (hfew : ((backTo cpos (starEach [e] X.env)).all (fun x => !x.1) && (backToKw cpos (keywordEach [] X.env)).all (fun x => x.1.isSome)
      && decide (([e] : List Expr).length + ([] : List Keyword).length + (if ([] : List Keyword).isEmpty then 0 else 1) < 30)) = true := by rfl)
    (hline : (apos.endLine == cpos.line) = true := by rfl) (hs : starEach [e] X.env = (false, eval e X.env) :: starEach [] X.env := by rfl) (hplain : (backTo cpos (starEach [] X.env)).any (·.1) = false := by rfl) :
    VE X false (.Call (.Attribute o "append" apos) [e] [] cpos) (mAppend i me) :=
  pe_weak (pe_bm PySem.F.plainAttrs_list PySem.F.slot_list_append PySem.F.type_list_append mt_append ho (pa_cons he pa_nil hs) hbase hfew hline hs hplain) fun σ H Q ⟨R, Z, S, env, s, k⟩ => by
    unfold mAppend at k
    split at k
    · rename_i ds0 h0
      obtain ⟨a, vs0, hv, ha, hr⟩ := s.lstAt h0
      refine ⟨_, hv, .inl ⟨rfl, _, SqL.of ha⟩, R, Z, S, env, s, all_mono (fun y k v Z1 H1 e1 st1 s1 r1 => ?_) (all_bind.mp k)⟩
      split at k
      · rename_i ds h1
        obtain ⟨hz, k⟩ := ok_all k
        obtain ⟨a', vs, hv', ha', hr'⟩ := s1.lstAt h1
        rw [hv] at hv'
        cases hv'
        refine ⟨a, vs, v, rfl, rfl, ha', line_lt (by rw [hr'.length]; exact hz), ?_⟩
        exact k .non Z1 _ e1 (fun z => nomatch z) (s1.lstTo h1 hv (hr'.append (.cons r1 .nil))) ⟨.non, (fun z => nomatch z), (fun z => nomatch z)⟩
      · exact k.elim
    · exact k.elim
theorem ve_extend {i : Nat} (ho : PE X o (tVar i)) (he : VI X p e me)
    (hbase : attributeBase o "extend" X.env (eval o X.env) = eval o X.env := by rfl)
    (hfew : ((backTo cpos (starEach [e] X.env)).all (fun x => !x.1) && (backToKw cpos (keywordEach [] X.env)).all (fun x => x.1.isSome)
      && decide (([e] : List Expr).length + ([] : List Keyword).length + (if ([] : List Keyword).isEmpty then 0 else 1) < 30)) = true := by rfl)
    (hline : (apos.endLine == cpos.line) = true := by rfl) (hs : starEach [e] X.env = (false, eval e X.env) :: starEach [] X.env := by rfl) (hplain : (backTo cpos (starEach [] X.env)).any (·.1) = false := by rfl) :
    VE X false (.Call (.Attribute o "extend" apos) [e] [] cpos) (mExtend i me) :=
  pe_weak (pe_bm PySem.F.plainAttrs_list PySem.F.slot_list_extend PySem.F.type_list_extend mt_extend ho (pa_cons he pa_nil hs) hbase hfew hline hs hplain) fun σ H Q ⟨R, Z, S, env, s, k⟩ => by
    unfold mExtend at k
    split at k
    · rename_i ds0 h0
      obtain ⟨a, vs0, hv, ha, hr⟩ := s.lstAt h0
      refine ⟨_, hv, .inl ⟨rfl, _, SqL.of ha⟩, R, Z, S, env, s, all_mono (fun y k v Z1 H1 e1 st1 s1 r1 => ?_) (all_bind.mp k)⟩
      split at k
      · rename_i ds es h1 he
        obtain ⟨hz, k⟩ := ok_all k
        obtain ⟨a', vs, hv', ha', hr'⟩ := s1.lstAt h1
        rw [hv] at hv'
        cases hv'
        rw [he] at r1
        cases r1 with
        | @lst b zs _ hb rb =>
          refine ⟨a, b, vs, zs, rfl, rfl, ha', s1.g.z _ _ hb, line_of (by rw [hr'.length, rb.length]; exact hz), ?_⟩
          exact k .non Z1 _ e1 (fun z => nomatch z) (s1.lstTo h1 hv (hr'.append rb)) ⟨.non, (fun z => nomatch z), (fun z => nomatch z)⟩
      · exact k.elim
    · exact k.elim
theorem vi_pop {i : Nat} (ho : PE X o (tVar i)) (hbase : attributeBase o "pop" X.env (eval o X.env) = eval o X.env := by rfl) (hline : (apos.endLine == cpos.line) = true := by rfl) :
    VI X false (.Call (.Attribute o "pop" apos) [] [] cpos) (mPop i) :=
  pe_weak (pe_bm0 PySem.F.plainAttrs_list PySem.F.slot_list_pop PySem.F.type_list_pop mt_pop ho hbase hline) fun σ H Q ⟨R, Z, S, env, s, k⟩ => by
    unfold mPop at k
    split at k
    · rename_i ds h0
      split at k
      · rename_i d hd
        obtain ⟨a, vs, hv, ha, hr⟩ := s.lstAt h0
        obtain ⟨w, hw, rw_⟩ := hr.get' hd
        refine ⟨_, hv, .inl ⟨rfl, _, SqL.of ha⟩, a, vs, w, rfl, rfl, ha, by rw [hr.length]; exact hw, ?_⟩
        exact k w Z _ (Same.refl Z) (fun z => nomatch z) (s.lstTo h0 hv hr.dropLast) rw_
      · exact k.elim
    · exact k.elim
theorem vi_popAt {i : Nat} (ho : PE X o (tVar i)) (he : VI X p e me)
    (hbase : attributeBase o "pop" X.env (eval o X.env) = eval o X.env := by rfl)
    (hfew : ((backTo cpos (starEach [e] X.env)).all (fun x => !x.1) && (backToKw cpos (keywordEach [] X.env)).all (fun x => x.1.isSome)
      && decide (([e] : List Expr).length + ([] : List Keyword).length + (if ([] : List Keyword).isEmpty then 0 else 1) < 30)) = true := by rfl)
    (hline : (apos.endLine == cpos.line) = true := by rfl) (hs : starEach [e] X.env = (false, eval e X.env) :: starEach [] X.env := by rfl) (hplain : (backTo cpos (starEach [] X.env)).any (·.1) = false := by rfl) :
    VI X false (.Call (.Attribute o "pop" apos) [e] [] cpos) (mPopAt i me) :=
  pe_weak (pe_bm PySem.F.plainAttrs_list PySem.F.slot_list_pop PySem.F.type_list_pop mt_popAt ho (pa_cons he pa_nil hs) hbase hfew hline hs hplain) fun σ H Q ⟨R, Z, S, env, s, k⟩ => by
    unfold mPopAt at k
    split at k
    · rename_i ds0 h0
      obtain ⟨a, vs0, hv, ha, hr⟩ := s.lstAt h0
      refine ⟨_, hv, .inl ⟨rfl, _, SqL.of ha⟩, R, Z, S, env, s, all_mono (fun y k v Z1 H1 e1 st1 s1 r1 => ?_) (all_bind.mp k)⟩
      obtain ⟨kk, hk, k⟩ := int?_all (all_bind.mp k)
      rw [hk] at r1
      cases r1
      split at k
      · rename_i ds h1
        obtain ⟨⟨b1, b2⟩, k⟩ := ok_all k
        obtain ⟨a', vs, hv', ha', hr'⟩ := s1.lstAt h1
        rw [hv] at hv'
        cases hv'
        split at k
        · rename_i j hj
          split at k
          · rename_i d hd
            obtain ⟨w, hw, rw_⟩ := hr'.get' hd
            obtain ⟨q1, _, _, _⟩ := ixN_seq hj
            refine ⟨a, vs, kk, j, w, rfl, rfl, ha', by omega, by omega, by rw [hr'.length]; exact q1, hw, ?_⟩
            exact k w Z1 _ e1 (fun z => nomatch z) (s1.lstTo h1 hv (hr'.eraseIdx j)) rw_
          · exact k.elim
        · exact k.elim
      · exact k.elim
    · exact k.elim
end

/-! ### x[i] = e, x[i] op= e of a list -/
def tgIx (j : Nat) (mi : MI) : MTg := fun t env => (slI t).bind fun d => match env[j]? with
  | some (some (.lst _)) => (mi env).bind fun x => (int? x.1).bind fun k => match x.2[j]? with
    | some (some (.lst ds)) => match ixN ds.length k with
      | some n => .ret (x.2.set j (some (.lst (ds.set n d))))
      | none => .bad
    | _ => .bad
  | _ => .bad
section
variable {X : Cx} {o e : Expr} {p : Bool} {mi : MI} {pos : Pos}
theorem vg_ix {j : Nat} (ho : PE X o (tVar j)) (hi : VI X p e mi)
    (hA : ∀ v, assign (.Subscript o e pos) X.env v = (do
      let ov ← holding [v] (eval o X.env)
      let iv ← holding [v, ov] (eval e X.env)
      standAt pos
      holding [v, ov, iv] (setItem ov iv v)
      release [v, ov, iv] []) := by intro _; rfl) : VTg X (.Subscript o e pos) (tgIx j mi) :=
  pg_weak (pg_sub ho hi set_list hA) fun v σ H Q ⟨R, Z, S, env, t, s, r, k⟩ => by
    obtain ⟨d, hd, k⟩ := slI_all (all_bind.mp k)
    obtain ⟨Z0, s0, e0, r0⟩ := res_i s r hd
    split at k
    · rename_i ds0 h0
      obtain ⟨a, vs0, hv, ha, hr⟩ := s0.lstAt h0
      refine ⟨_, hv, R, Z0, S, env, s0, all_mono (fun y k w Z1 H1 e1 st1 s1 r1 => ?_) (all_bind.mp k)⟩
      obtain ⟨kk, hk, k⟩ := int?_all (all_bind.mp k)
      rw [hk] at r1
      cases r1
      split at k
      · rename_i ds h1
        obtain ⟨a', vs, hv', ha', hr'⟩ := s1.lstAt h1
        rw [hv] at hv'
        cases hv'
        split at k
        · rename_i n hn
          refine ⟨a, vs, kk, n, rfl, rfl, ha', by rw [hr'.length]; exact hn, ?_⟩
          exact k σ Z1 _ (e0.trans e1) (s1.lstTo h1 hv (RpAll.set (r0.mono e1) n hr'))
        · exact k.elim
      · exact k.elim
    · exact k.elim
theorem get_list : PGet X (rIxL X.K) := by
  rintro pins s σ H x y v u Q I rx ry ⟨p, xs, i, z, rfl, rfl, hq, he, q⟩
  cases rx
  obtain ⟨t, rfl⟩ := ry
  obtain ⟨its, r, pl, hz⟩ := I.list hq
  obtain ⟨j, h1, h2, h3, h4, h5⟩ := atI_get he
  obtain ⟨w, ew, rw'⟩ := r.get h2
  have hl := r.length
  have hn := line63
  have fin : EP X pins σ Q w s := ⟨z, H, I, rw', q⟩
  by_cases h0 : 0 ≤ i
  · rw [seqIndex_of h0 h5] at h1
    have hj : i.toNat = j := Option.some.inj h1
    exact wpAny_getItem_list pl.isList h0 (by omega) (by rw [hj]; simpa using ew) fin
  · rw [seqIndex_neg (by omega) h4] at h1
    have hj : (i + (its.toArray.size : Int)).toNat = j := by
      rw [List.size_toArray, ← hl]
      exact Option.some.inj h1
    exact wpAny_getItem_list_neg pl.isList (by omega) (by rw [List.size_toArray] <;> omega) (by omega) (by rw [hj]; simpa using ew) fin
end
def AugV (X : Cx) (op : Operator) (f : PyData → PyData → Tr Sl) : Prop := PIp X op fun x y H Q => ∃ R Z S d e, Good R Z S H ∧ Bw X.K Z S H x d ∧ Bw X.K Z S H y e ∧ PR X.K R Z S H (f d e) Q
def augI (g : Int → Int → Int) : PyData → PyData → Tr Sl
  | .int i, .int j => rN (g i j)
  | _, _ => .bad
def sAugIx (j : Nat) (mi me : MI) (f : Int → Int → Int) : MS := fun env => match env[j]? with
  | some (some (.lst _)) => (mi env).bind fun x => (int? x.1).bind fun k => match x.2[j]? with
    | some (some (.lst ds)) => match atI ds k with
      | some d => (me x.2).bind fun y => (int? d).bind fun a => (int? y.1).bind fun b => match y.2[j]? with
        | some (some (.lst es)) => match ixN es.length k with
          | some n => .ret (.nx, y.2.set j (some (.lst (es.set n (.int (f a b))))))
          | none => .bad
        | _ => .bad
      | none => .bad
    | _ => .bad
  | _ => .bad
def sAug (i : Nat) (me : MI) (f : Int → Int → Int) : MS := fun env => match env[i]? with
  | some (some (.imm (.int a))) => (me env).bind fun x => (int? x.1).bind fun b => .ret (.nx, x.2.set i (some (.imm (.int (f a b)))))
  | _ => .bad
section
variable {X : Cx} {o e i : Expr} {p q : Bool} {mi me : MI} {pos tpos : Pos} {op : Operator} {f : Int → Int → Int}
theorem vs_augIx {j : Nat} (ho : PE X o (tVar j)) (hi : VI X p i mi) (he : VI X q e me) (hp : PIp X op (ipI f)) (ha : ∀ ov iv new, augStore i ov iv new = (do holding [new, ov, iv] (setItem ov iv new); release [new, ov, iv] []; pure .next) := by intros; rfl) :
    VS X (.AugAssign (.Subscript o i tpos) op e pos) (sAugIx j mi me f) := ps_weak (ps_augS ho hi get_list he hp set_list ha) fun D σ H ⟨R, Z, S, env, s, k⟩ => by
  unfold sAugIx at k
  split at k
  · rename_i ds0 h0
    obtain ⟨a, vs0, hv, hA, hr⟩ := s.lstAt h0
    refine ⟨_, hv, R, Z, S, env, s, all_mono (fun y k w Z1 H1 e1 st1 s1 r1 => ?_) (all_bind.mp k)⟩
    obtain ⟨kk, hk, k⟩ := int?_all (all_bind.mp k)
    rw [hk] at r1
    cases r1
    split at k
    · rename_i ds h1
      obtain ⟨a', vs, hv', ha', hr'⟩ := s1.lstAt h1
      rw [hv] at hv'
      cases hv'
      split at k
      · rename_i d hd
        obtain ⟨v0, hv0, rv0⟩ := hr'.atI hd
        refine ⟨a, vs, kk, v0, rfl, rfl, .of ha', hv0, R, Z1, S, y.2, s1, all_mono (fun z k v2 Z2 H2 e2 st2 s2 r2 => ?_) (all_bind.mp k)⟩
        obtain ⟨m, hm, k⟩ := int?_all (all_bind.mp k)
        obtain ⟨m2, hm2, k⟩ := int?_all (all_bind.mp k)
        rw [hm] at rv0
        rw [hm2] at r2
        cases rv0
        cases r2
        split at k
        · rename_i es h2
          obtain ⟨a2, us, hv2, ha2, hr2⟩ := s2.lstAt h2
          rw [hv] at hv2
          cases hv2
          split at k
          · rename_i n hn
            refine ⟨m, m2, rfl, rfl, a, us, kk, n, rfl, rfl, ha2, by rw [hr2.length]; exact hn, ?_⟩
            exact k σ Z2 _ (e1.trans e2) (s2.lstTo h2 hv (RpAll.set (.int _) n hr2))
          · exact k.elim
        · exact k.elim
      · exact k.elim
    · exact k.elim
  · exact k.elim
theorem vs_aug {i : Nat} {x : Str} {pos' : Pos} (hN : X.N.Nodup) (he : VI X q e me) (hp : PIp X op (ipI f)) (hi : X.N[i]? = some x := by rfl) (hx : Loc X.env.scope x := by first | exact Or.inl rfl | exact Or.inr rfl)
    (hf : X.fn x = true ∨ X.env.scope.names.lookup x = some .local := by first | exact .inl rfl | exact .inr rfl) : VS X (.AugAssign (.Name x pos') op e pos) (sAug i me f) := ps_weak (ps_aug hN hi hx he hp hf) fun D σ H ⟨R, Z, S, env, s, k⟩ => by
  unfold sAug at k
  split at k
  · rename_i a h0
    obtain ⟨v, h1, h2, _⟩ := s.sl i _ h0
    have h2 : Rp X.K Z v (.int a) := h2
    cases h2
    refine ⟨_, h1, R, Z, S, env, s, all_mono (fun y k w Z1 H1 e1 st1 s1 r1 => ?_) (all_bind.mp k)⟩
    obtain ⟨b, hb, k⟩ := int?_all (all_bind.mp k)
    rw [hb] at r1
    cases r1
    exact ⟨a, b, rfl, rfl, k _ Z1 H1 e1 (s1.setFree (s := .imm (.int (f a b))) rfl (.int _))⟩
  · exact k.elim
end

/-! ### y = [e for ..] on one line -/
section
variable {X : Cx} {elt tg iter : Expr} {ifs : List Expr} {scope : Scope} {own : List (Str × Nat)} {pos spos py : Pos} {mw : MW} {one p : Bool} {tt : MT} {te : MI} {i : Nat} {y : Str}
theorem vs_setLc (hc : X.calm = true) (hN : X.N.Nodup) (hy : X.N[i]? = some y) (hyl : X.env.scope.names.lookup y = some .local) (hsw : swapsWith (.ListComp elt [⟨tg, iter, ifs, 0⟩] scope pos) (some (.Name y py)) spos.line X.env = pure true)
    (hi : VWk X tg iter mw) (ok : BlkOk X.N X.env.scope scope own)
    (hg : ∀ (s : Shared) (H : Hp) (C : Addr) (cl : List (Str × Addr)) (fp : List Addr), PG (X.blk s H scope (compEnvC scope cl C X.env) fp) tg (gNames X.K one (own.map (·.2))))
    (ht : ∀ (s : Shared) (H : Hp) (C : Addr) (cl : List (Str × Addr)) (fp : List Addr), VTs (X.blk s H scope (compEnvC scope cl C X.env) fp) ifs tt)
    (he : ∀ (s : Shared) (H : Hp) (C : Addr) (cl : List (Str × Addr)) (fp : List Addr), VI (X.blk s H scope (compEnvC scope cl C X.env) fp) p elt te) (hs : ∀ x, foldedSetIterable iter X.env x = pure x := by intro _; rfl) :
    VS X (.Assign [.Name y py] (.ListComp elt [⟨tg, iter, ifs, 0⟩] scope pos) spos) (sSet i (mLc mw one (own.map (·.2)) tt te)) :=
  ps_weak (ps_setLc hc hN hy hyl hsw hi ok hg ht he hs) fun D σ H ⟨R, Z, S, env, s, k⟩ => lc_run ⟨R, Z, S, env, s, all_mono (fun z k v Z' H' e st s' r => k _ Z' H' e (s'.set r)) (all_bind.mp k)⟩
end

/-! ### a, b = e, f: no pair is made -/
section
variable {K : PySem.W.Frag} {R Z Z' : Hp} {S : Src} {H H' : Hp} {σ : L2.St} {env : Ev}
/-- a result waits beside the slots -/
theorem SR.hold {v : V} {t : Sl} (q : SR K R Z S H σ env) (r : Res K R Z S H σ env v t) : ∃ R', SR K R' Z S H σ env ∧ ∀ {Z' H' env'}, Same Z Z' → SR K R' Z' S H' σ env' →
    SR K R Z' S H' σ env' ∧ Res K R Z' S H' σ env' v t ∧ ∀ {w u}, Res K R' Z' S H' σ env' w u → Res K R Z' S H' σ env' w u ∧ (t.own = true → u.own = true → w ≠ v) := by
  cases ho : t.own with
  | false =>
    refine ⟨R, q, fun {Z' H' env'} e q' => ⟨q', ⟨(RSl.mono (H' := H) e (fun _ _ z => by rw [ho] at z; cases z) r.r).any ho, (fun z => by rw [ho] at z; cases z), fun z => by rw [ho] at z; cases z⟩, fun r2 => ⟨r2, fun z => nomatch z⟩⟩⟩
  | true =>
    obtain ⟨a, o, rfl, ha, mu⟩ := r.r.at ho
    have out := r.o ho a rfl
    have le : Same R (upd R a o) := Same.upd_new out.1
    refine ⟨upd R a o, ⟨⟨fun x u e => ?_, q.g.z, q.g.s, fun x u e => ?_, fun x n => ⟨?_, (q.g.rs x n).2⟩, q.g.tz⟩, q.len, fun j u hj => ?_, q.ds⟩, fun {Z' H' env'} e q' => ?_⟩
    · by_cases hx : x = a
      · subst hx; rw [upd_same] at e; rw [← e]; exact ha
      · rw [upd_ne hx] at e; exact q.g.r x u e
    · by_cases hx : x = a
      · subst hx; exact out.2.1
      · rw [upd_ne hx] at e; exact q.g.rz x u e
    · have hx : x ≠ a := fun z => by subst z; exact out.2.2 n
      rw [upd_ne hx]; exact (q.g.rs x n).1
    · obtain ⟨w, h1, h2, h3⟩ := q.sl j u hj
      refine ⟨w, h1, h2, fun hu b hb => ?_⟩
      have z := h3 hu b hb
      have hx : b ≠ a := fun z => by
        subst z
        rw [hb] at h1
        exact r.f ho j u hj hu h1
      exact ⟨by rw [upd_ne hx]; exact z.1, z.2⟩
    · have hH : H' a = some o := q'.g.r a o upd_same
      have hZ : Z' a = none := q'.g.rz a o upd_same
      have nr : ∀ x, (upd R a o) x = none → R x = none := fun x e => le.free e
      have base : SR K R Z' S H' σ env' := ⟨⟨fun x u e => q'.g.r x u (le x u e), q'.g.z, q'.g.s, fun x u e => q'.g.rz x u (le x u e), fun x n => ⟨nr x (q'.g.rs x n).1, (q'.g.rs x n).2⟩, q'.g.tz⟩, q'.len, fun j t hj => by
        obtain ⟨w, h1, h2, h3⟩ := q'.sl j t hj
        exact ⟨w, h1, h2, fun hu b hb => ⟨nr b (h3 hu b hb).1, (h3 hu b hb).2⟩⟩, q'.ds⟩
      refine ⟨base, ⟨r.r.mono e fun b hb _ u hu => ?_, fun _ b hb => ?_, fun _ j u hj hu e => ?_⟩, fun {w u} r2 => ⟨⟨r2.r, fun hu b hb => ⟨nr b (r2.o hu b hb).1, (r2.o hu b hb).2⟩, r2.f⟩, fun _ hu z => ?_⟩⟩
      · cases hb
        rw [ha] at hu
        cases hu
        exact hH
      · cases hb
        exact ⟨out.1, hZ, out.2.2⟩
      · obtain ⟨w, h1, h2, h3⟩ := q'.sl j u hj
        rw [h1] at e
        have e' : w = .ref a := Option.some.inj (Option.some.inj e)
        have w := (h3 hu a e').1
        rw [upd_same] at w
        cases w
      · subst z
        have w := (r2.o hu a rfl).1
        rw [upd_same] at w
        cases w
/-- a second result is stored beside the first one -/
theorem Res.beside {i : Nat} {v w : V} {t u : Sl} (q : SR K R Z S H σ env) (r : Res K R Z S H σ env w u) (hi : i < env.length) (n : t.own = true → u.own = true → w ≠ v) : Res K R Z S H (σ.set i (some v)) (env.set i (some t)) w u := by
  refine ⟨r.r, r.o, fun hu j y hj hy e => ?_⟩
  by_cases hij : i = j
  · subst hij
    rw [List.getElem?_set_self hi] at hj
    rw [List.getElem?_set_self (by rw [← q.len]; exact hi)] at e
    have e1 : t = y := Option.some.inj (Option.some.inj hj)
    have e2 : v = w := Option.some.inj (Option.some.inj e)
    subst e1
    exact n hy hu e2.symm
  · rw [List.getElem?_set_ne hij] at hj e
    exact r.f hu j y hj hy e
end
def sPar (i j : Nat) (ma mb : ME) : MS := fun env => ok (i < env.length) ((ma env).bind fun x => (mb x.2).bind fun y => ok (i < y.2.length) (.ret (.nx, (y.2.set i (some x.1)).set j (some y.1))))
def sPar3 (i j l : Nat) (ma mb mc : MI) : MS := fun env => (ma env).bind fun x => (mb x.2).bind fun y => (mc y.2).bind fun z => .ret (.nx, ((z.2.set i (some (.imm x.1))).set j (some (.imm y.1))).set l (some (.imm z.1)))
section
variable {X : Cx} {a b c : Expr} {p q r : Bool} {ma mb : ME} {na nb nc : MI} {x y z : Str} {px py pz pt pt2 pos : Pos} {kt k2 : Nat} {i j l : Nat}
theorem vs_par (hc : X.calm = true) (hN : X.N.Nodup) (ha : VE X p a ma) (hb : VE X q b mb) (hw : swappedStores [.Tuple [.Name x px, .Name y py] kt pt] (.Tuple [a, b] k2 pt2) X.env = pure (some [x, y])) (hij : i ≠ j)
    (hi : X.N[i]? = some x := by rfl) (hj : X.N[j]? = some y := by rfl) (hx : X.env.scope.names.lookup x = some .local := by rfl) (hy : X.env.scope.names.lookup y = some .local := by rfl)
    (hs : swapsWithSole [.Tuple [.Name x px, .Name y py] kt pt] (.Tuple [a, b] k2 pt2) pos.line X.env = pure false := by rfl)
    (h1 : starEach [a, b] X.env = (false, eval a X.env) :: starEach [b] X.env := by rfl) (h2 : starEach [b] X.env = (false, eval b X.env) :: starEach [] X.env := by rfl) :
    VS X (.Assign [.Tuple [.Name x px, .Name y py] kt pt] (.Tuple [a, b] k2 pt2) pos) (sPar i j ma mb) :=
  ps_weak (ps_par hc hN hi hj hij hx hy (pa_cons ha (pa_cons hb pa_nil h2) h1) hw hs) fun D σ H ⟨R, Z, S, env, s, k⟩ => by
    obtain ⟨hl, k⟩ := ok_all k
    refine ⟨R, Z, S, env, s, all_mono (fun t k v Z1 H1 e1 st1 s1 r1 => ?_) (all_bind.mp k)⟩
    obtain ⟨R', sR, back⟩ := s1.hold r1
    refine ⟨R', Z1, S, t.2, sR, all_mono (fun u k w Z2 H2 e2 st2 s2 r2 => ?_) (all_bind.mp k)⟩
    obtain ⟨hl2, k⟩ := ok_all k
    obtain ⟨b1, b2, b3⟩ := back e2 s2
    obtain ⟨b4, b5⟩ := b3 r2
    exact ⟨v, w, rfl, k _ Z2 H2 (e1.trans e2) ((b1.set b2).set (b4.beside b1 hl2 b5))⟩
theorem vs_par3 (hc : X.calm = true) (hN : X.N.Nodup) (ha : VI X p a na) (hb : VI X q b nb) (hcc : VI X r c nc) (hw : swappedStores [.Tuple [.Name x px, .Name y py, .Name z pz] kt pt] (.Tuple [a, b, c] k2 pt2) X.env = pure (some [x, y, z])) (hij : i ≠ j) (hil : i ≠ l) (hjl : j ≠ l)
    (hi : X.N[i]? = some x := by rfl) (hj : X.N[j]? = some y := by rfl) (hl : X.N[l]? = some z := by rfl) (hx : X.env.scope.names.lookup x = some .local := by rfl) (hy : X.env.scope.names.lookup y = some .local := by rfl) (hz : X.env.scope.names.lookup z = some .local := by rfl)
    (hs : swapsWithSole [.Tuple [.Name x px, .Name y py, .Name z pz] kt pt] (.Tuple [a, b, c] k2 pt2) pos.line X.env = pure false := by rfl)
    (h1 : starEach [a, b, c] X.env = (false, eval a X.env) :: starEach [b, c] X.env := by rfl) (h2 : starEach [b, c] X.env = (false, eval b X.env) :: starEach [c] X.env := by rfl) (h3 : starEach [c] X.env = (false, eval c X.env) :: starEach [] X.env := by rfl) :
    VS X (.Assign [.Tuple [.Name x px, .Name y py, .Name z pz] kt pt] (.Tuple [a, b, c] k2 pt2) pos) (sPar3 i j l na nb nc) :=
  ps_weak (ps_par3 hc hN hi hj hl hij hil hjl hx hy hz (pa_cons ha (pa_cons hb (pa_cons hcc pa_nil h3) h2) h1) hw hs) fun D σ H ⟨R, Z, S, env, s, k⟩ => by
    refine ⟨R, Z, S, env, s, all_mono (fun t k v Z1 H1 e1 st1 s1 r1 => ?_) (all_bind.mp k)⟩
    refine ⟨R, Z1, S, t.2, s1, all_mono (fun u k w Z2 H2 e2 st2 s2 r2 => ?_) (all_bind.mp k)⟩
    refine ⟨R, Z2, S, u.2, s2, all_mono (fun f k w3 Z3 H3 e3 st3 s3 r3 => ?_) (all_bind.mp k)⟩
    exact ⟨v, w, w3, rfl, k _ Z3 H3 ((e1.trans e2).trans e3) (((s3.setFree (s := .imm t.1) rfl (r1.mono (e2.trans e3))).setFree (s := .imm u.1) rfl (r2.mono e3)).setFree (s := .imm f.1) rfl r3)⟩
end

/-! ### several targets of any kind -/
def tgSeq : List MTg → List PyData → Ev → Tr Ev
  | [], [], env => .ret env
  | g :: gs, d :: ds, env => (g (.imm d) env).bind fun env' => tgSeq gs ds env'
  | _, _, _ => .bad
def tgTupG (gs : List MTg) : MTg := fun t env => match t with
  | .imm (.tuple ds) => ok (ds.length = gs.length) (tgSeq gs ds env)
  | _ => .bad
def RGq (K : PySem.W.Frag) (gs : List MTg) : TGs := fun vs σ H Q => ∃ R Z S env ds, SR K R Z S H σ env ∧ RpAll K Z vs ds ∧ vs.length = gs.length ∧ (tgSeq gs ds env).all fun env' => ∀ σ' Z' H', Same Z Z' → SR K R Z' S H' σ' env' → Q σ' H'
section
variable {X : Cx} {e : Expr} {es : List Expr} {g : MTg} {gs : List MTg} {pos : Pos}
theorem vgq_nil : PGs X [] (RGq X.K []) := pgs_weak pgs_nil fun vs σ H Q ⟨R, Z, S, env, ds, s, r, hl, k⟩ => by
  cases vs with
  | cons _ _ => cases hl
  | nil =>
    cases r
    exact ⟨rfl, k σ Z H (Same.refl Z) s⟩
theorem vgq_cons (h : VTg X e g) (h2 : PGs X es (RGq X.K gs)) (hA : (assignEach (e :: es) X.env).map (·.2) = assign e X.env :: (assignEach es X.env).map (·.2) := by rfl) : PGs X (e :: es) (RGq X.K (g :: gs)) := pgs_weak (pgs_cons h h2 hA) fun vs σ H Q ⟨R, Z, S, env, ds, s, r, hl, k⟩ => by
  cases r with
  | nil => cases hl
  | cons r1 r2 =>
    rename_i d1 ds1 v1 vs1
    refine ⟨_, _, rfl, R, Z, S, env, .imm _, s, ⟨r1, (fun z => nomatch z), (fun z => nomatch z)⟩, all_mono (fun env1 k σ1 Z1 H1 e1 s1 => ?_) (all_bind.mp k)⟩
    exact ⟨R, Z1, S, env1, _, s1, r2.mono e1, Nat.succ.inj hl, all_mono (fun env2 k σ2 Z2 H2 e2 s2 => k σ2 Z2 H2 (e1.trans e2) s2) k⟩
theorem vg_tupG {n : Nat} (hc : X.calm = true) (h : PGs X es (RGq X.K gs)) (hl : (assignEach es X.env).length = gs.length := by rfl) (hst : (assignEach es X.env).findIdx? (·.1) = none := by rfl) : VTg X (.Tuple es n pos) (tgTupG gs) :=
  pg_weak (pg_tup hc h hl hst) fun v σ H Q ⟨R, Z, S, env, t, s, r, k⟩ => by
    unfold tgTupG at k
    split at k
    · rename_i ds
      obtain ⟨hn, k⟩ := ok_all k
      obtain ⟨a, vs, rfl, ha, ra⟩ := Bw.tuple s.g (.inl r.r)
      exact ⟨a, vs, rfl, ha, by rw [ra.length, hn], R, Z, S, env, ds, s, ra, by rw [ra.length, hn], k⟩
    · exact k.elim
end
end PV

set_option Elab.async false
set_option linter.all false
set_option autoImplicit false
set_option maxRecDepth 100000
/-! PV9: callees as facts; ranges as values. -/
namespace PV
open PySem PySem.Spec L2

/-- the built-ins' names are not the module's own -/
structure Blt (mg : Str → Option Value) : Prop where
  len : mg "len" = none
  range : mg "range" = none
  tuple : mg "tuple" = none
  list : mg "list" = none
  int : mg "int" = none
  abs : mg "abs" = none
  max : mg "max" = none
  min : mg "min" = none
  sorted : mg "sorted" = none
  repr : mg "repr" = none
  zip : mg "zip" = none
  enumerate : mg "enumerate" = none
  sum : mg "sum" = none
  dict : mg "dict" = none
  isinstance : mg "isinstance" = none
  all : mg "all" = none
/-- a def of the module's top -/
def Fct (K : PySem.W.Frag) (mg : Str → Option Value) (x : Str) (st : Stmt) (ps : List Str) : Prop := ∃ f fd, Fun K x x st f fd ∧ mg x = some (.ref f) ∧ Binds K fd ps []
/-- a def as callers see it -/
structure Cal (P : Program) (w : World) (K : PySem.W.Frag) (mg : Str → Option Value) (base : Heap) (x : Str) (k : Nat) (ps : List Str) (fs : FS) : Prop where
  ex : ∃ f fd, FnG P w K mg base k f fd ps (spV K ps.length fs) ∧ mg x = some (.ref f) ∧ PySem.W.keepIn K (.ref f) = true ∧ Binds K fd ps []
section
variable {P : Program} {w : World} {K : PySem.W.Frag} {mg : Str → Option Value} {base : Heap}
theorem Cal.of {x : Str} {st : Stmt} {N ps : List Str} {k : Nat} {m : MS} (F : Fct K mg x st ps) (S : FnScope N ps (defScope st))
    (h : ∀ (f : Addr) (cd : Value) (A : Around) (outer : List Env) (s : Shared) (H : Hp) (E : XK), Room k (A.deeper (PyProof.Rows.envOfC x (defScope st) s.heap.objs.size f cd)) → A.guards = some [] → VSs (bodyX P w K mg base N x (defScope st) f cd A outer s H E) (defBody st) m) :
    Cal P w K mg base x (k + 1) ps (run N.length m) := by
  obtain ⟨f, fd, F, hm, hb⟩ := F
  exact ⟨f, fd, fnV F S (h f), hm, F.kp, hb⟩
theorem Cal.mono {x : Str} {ps : List Str} {j k : Nat} {fs : FS} (C : Cal P w K mg base x j ps fs) (h : j ≤ k) : Cal P w K mg base x k ps fs := by
  obtain ⟨f, fd, F, r⟩ := C
  exact ⟨f, fd, F.mono h, r⟩
end
section
variable {X : Cx} {e : Expr} {es : List Expr} {p q : Bool} {mg' : MG} {pos p2 : Pos} {x : Str}
theorem ve_cal {j k n : Nat} {ps : List Str} {fs : FS} (C : Cal X.prog X.w X.K X.mg X.base x j ps fs) (h : j ≤ k) (hr : Room k X.A) (hG : X.A.guards = some []) (hg : Gl X x) (ha : VG X p (e :: es) mg') (hn : ps.length = n := by rfl) (hdb : (x == ("__debug__" : Str)) = false := by decide)
    (he : starEach (e :: es) X.env = (false, eval e X.env) :: starEach es X.env := by rfl) (hpl : (backTo pos (starEach es X.env)).any (·.1) = false := by rfl) : VE X p (.Call (.Name x p2) (e :: es) [] pos) (mCall n fs mg') := by
  subst hn
  obtain ⟨f, fd, F, hm, hk, hb⟩ := C
  exact ve_call (F.mono h) hr hG hg hm hk hb ha hdb he hpl
end
/-- a name's value as a rule of the layer -/
abbrev pn := @L2.pv

/-! ### list(range(..)), tuple(range(..)) -/
def mTupRg (w : MW) : ME := fun env => (w env).bind fun x => ok (x.1.length ≤ 1000000) (.ret (.imm (.tuple x.1), x.2))
def mLstRg (w : MW) : ME := fun env => (w env).bind fun x => ok (x.1.length ≤ 1000000) (.ret (.lst x.1, x.2))
section
variable {X : Cx} {a b : Expr} {p q : Bool} {ma mb : MI} {ps ps2 pos pos2 : Pos} {K : PySem.W.Frag} {Z : Hp}
theorem rp_rg {lo hi : Int} : RpAll K Z (rgV lo hi) (rangeD lo hi) := by
  have e1 : rgV lo hi = ((List.range (hi - lo).toNat).map fun i => lo + ((i : Nat) : Int)).map V.int := by unfold rgV; rw [List.map_map]; rfl
  have e2 : rangeD lo hi = ((List.range (hi - lo).toNat).map fun i => lo + ((i : Nat) : Int)).map PyData.int := by unfold rangeD; rw [List.map_map]; rfl
  rw [e1, e2]
  exact RpAll.ints _
theorem rgok {i j : Int} (h : -1000000000 ≤ i ∧ i ≤ 1000000000 ∧ -1000000000 ≤ j ∧ j ≤ 1000000000) (hl : (rangeD i j).length ≤ 1000000) : RgOk i j := by
  rw [rangeD_length] at hl
  exact ⟨by omega, by omega, by omega, by omega, by omega⟩
/-- the two ends -/
def RRg (K : PySem.W.Frag) (p : Bool) (m : MW) : L2.St → Hp → (Int → Int → Hp → Prop) → Prop := fun σ H Q => ∃ R Z S env, SR K R Z S H σ env ∧ (m env).all fun y => ∀ i j Z' H', Same Z Z' → (p = true → Stay S H H') → SR K R Z' S H' σ y.2 → y.1 = rangeD i j → (-1000000000 ≤ i ∧ i ≤ 1000000000 ∧ -1000000000 ≤ j ∧ j ≤ 1000000000) → Q i j H'
abbrev VRg (X : Cx) (p : Bool) (e : Expr) (m : MW) : Prop := PRg X e (RRg X.K p m)
theorem prg_weak {e : Expr} {t t' : L2.St → Hp → (Int → Int → Hp → Prop) → Prop} (h : PRg X e t) (w : ∀ σ H Q, t' σ H Q → t σ H Q) : PRg X e t' := by
  unfold PRg at h ⊢
  intros
  first
    | exact h _ _ _ _ _ (by assumption) (w _ _ _ (by assumption))
    | exact h _ _ _ _ _ _ (by assumption) (w _ _ _ (by assumption))
theorem vr_1 (ha : VI X p a ma) (hg : Gl X "range") (hm : X.mg "range" = none) (na : starEach [a] X.env = (false, eval a X.env) :: starEach [] X.env := by rfl) : VRg X p (.Call (.Name "range" ps) [a] [] pos) (wRange1 ma) :=
  prg_weak (prg_1 hg hm ha na) fun σ H Q ⟨R, Z, S, env, s, k⟩ => by
    refine ⟨R, Z, S, env, s, all_mono (fun y k v Z1 H1 e1 st1 s1 r1 => ?_) (all_bind.mp k)⟩
    obtain ⟨j, hj, k⟩ := int?_all (all_bind.mp k)
    obtain ⟨⟨b1, b2⟩, k⟩ := ok_all k
    rw [hj] at r1
    cases r1
    exact ⟨j, rfl, k 0 j Z1 H1 e1 st1 s1 rfl ⟨by omega, by omega, b1, b2⟩⟩
theorem vr_2 (ha : VI X p a ma) (hb : VI X q b mb) (hg : Gl X "range") (hm : X.mg "range" = none) (na : starEach [a, b] X.env = (false, eval a X.env) :: starEach [b] X.env := by rfl) (nb : starEach [b] X.env = (false, eval b X.env) :: starEach [] X.env := by rfl) (hp : (backTo pos (starEach [b] X.env)).any (·.1) = false := by rfl) : VRg X (p && q) (.Call (.Name "range" ps) [a, b] [] pos) (wRange2 ma mb) :=
  prg_weak (prg_2 hg hm ha hb na nb hp) fun σ H Q ⟨R, Z, S, env, s, k⟩ => by
    refine ⟨R, Z, S, env, s, all_mono (fun y k v Z1 H1 e1 st1 s1 r1 => ?_) (all_bind.mp k)⟩
    refine ⟨R, Z1, S, y.2, s1, all_mono (fun z k w Z2 H2 e2 st2 s2 r2 => ?_) (all_bind.mp k)⟩
    obtain ⟨i, hi, k⟩ := int?_all (all_bind.mp k)
    obtain ⟨j, hj, k⟩ := int?_all (all_bind.mp k)
    obtain ⟨b1, k⟩ := ok_all k
    rw [hi] at r1
    rw [hj] at r2
    cases r1
    cases r2
    exact ⟨i, j, rfl, rfl, k i j Z2 H2 (e1.trans e2) (fun hp => by
      simp only [Bool.and_eq_true] at hp
      exact (st1 hp.1).trans (st2 hp.2)) s2 rfl b1⟩
theorem ve_tupRg {e : Expr} {m : MW} (hc : X.calm = true) (hg : Gl X "tuple") (hm : X.mg "tuple" = none) (he : VRg X p e m) (na : starEach [e] X.env = (false, eval e X.env) :: starEach [] X.env := by rfl) : VE X p (.Call (.Name "tuple" ps) [e] [] pos) (mTupRg m) :=
  pe_weak (pe_tupRgF hc hg hm he na) fun σ H Q ⟨R, Z, S, env, s, k⟩ => by
    refine ⟨R, Z, S, env, s, all_mono (fun y k i j Z1 H1 e1 st1 s1 ey bd => ?_) (all_bind.mp k)⟩
    obtain ⟨hl, k⟩ := ok_all k
    rw [ey] at hl k
    refine ⟨rgok bd hl, fun pp o hp hd => ?_⟩
    have t := Step.last (o := .frz o (.tup (rgV i j))) s1.g hp
    exact k (.ref pp) _ _ (e1.trans t.e) (fun hh => (st1 hh).trans t.st) (s1.step t) ⟨.tup (TupZ.new hd) rp_rg, (fun z => nomatch z), (fun z => nomatch z)⟩
theorem ve_lstRg {e : Expr} {m : MW} (hc : X.calm = true) (hg : Gl X "list") (hm : X.mg "list" = none) (he : VRg X p e m) (na : starEach [e] X.env = (false, eval e X.env) :: starEach [] X.env := by rfl) : VE X p (.Call (.Name "list" ps) [e] [] pos) (mLstRg m) :=
  pe_weak (pe_listRg hc hg hm he na) fun σ H Q ⟨R, Z, S, env, s, k⟩ => by
    refine ⟨R, Z, S, env, s, all_mono (fun y k i j Z1 H1 e1 st1 s1 ey bd => ?_) (all_bind.mp k)⟩
    obtain ⟨hl, k⟩ := ok_all k
    rw [ey] at hl k
    refine ⟨rgok bd hl, fun pp hp => ?_⟩
    have t := Step.new (o := .lst (rgV i j)) s1.g hp
    refine k (.ref pp) _ _ (e1.trans t.e) (fun hh => (st1 hh).trans t.st) (s1.step t) ⟨⟨pp, _, rfl, upd_same, rp_rg⟩, fun _ b hb => ?_, fun _ i u hi hu q => ?_⟩
    · cases hb; exact s1.g.out hp
    · obtain ⟨w, h1, h2, h3⟩ := s1.sl i u hi
      rw [h1] at q
      have e1 : w = .ref pp := Option.some.inj (Option.some.inj q)
      obtain ⟨b, ob, e2, hob, _⟩ := h2.at hu
      rw [e1] at e2
      cases e2
      rw [hp] at hob; cases hob
end
end PV

set_option Elab.async false
set_option linter.all false
set_option autoImplicit false
set_option maxRecDepth 100000
/-! PVt: sorted of a tuple (the kit's rules are for lists; the way is the same). -/
namespace PV
open PySem PySem.Spec PySem.Calls PyProof.Rows PySem.W
section
variable {prog : Program} {w : World} {A : Around} {E : Value → Shared → Prop} {s : Shared} {β : Type} {vs : List Value} {bs : List β} {enc : β → PyData} {R : Value → β → Prop}
theorem collect_tup {l : Addr} {Q : List Value → Shared → Prop} (hl : IsTup s.heap l vs.toArray)
    (h : Q vs { s with heap := (s.heap.push (seqObj "list" #[] 0)).update s.heap.objs.size (Obj.mapSeq (· ++ vs.toArray)) }) (hsz : vs.length ≤ sizeLine) :
    wpAny (model prog w) A (collect (.ref l)) Q E s := by
  obtain ⟨o, ho, hc, n, hd⟩ := id hl
  unfold collect
  refine wpAny_bind (wpAny_runValue (codeAny_builtin entry_proto_collect' ?_))
  show wpAny _ _ (do again (.builtin "list.__iadd__" ⟨[← newList [], .ref l], []⟩)) _ _ s
  refine wpAny_bind (wpAny_newList (wpAny_pure ⟨Code.quiet_builtin _ (by decide +kernel), codeAny_builtin entry_list_iadd' ?_⟩))
  show wpAny _ _ (Builtin.List.listExtendWith (.ref s.heap.objs.size) (.ref l) (.ref s.heap.objs.size)) _ _ { s with heap := s.heap.push (seqObj "list" #[] 0) }
  unfold Builtin.List.listExtendWith
  have ho' : (s.heap.push (seqObj "list" #[] 0)).get? l = some o := Heap.get?_push_of_some _ ho
  refine wpAny_bind (wpAny_typeOf (T := "tuple") ⟨o, ho', hc⟩ ?_)
  have ht : (Value.type "tuple" == Value.type "tuple") = true := by rfl
  rw [if_pos (by rw [ht]; simp)]
  refine wpAny_bind (listItems_at ho' hd ?_)
  refine wpAny_bind (listItems_at (xs := #[]) (n := 0) (Heap.get?_push_size _ rfl) rfl ?_)
  rw [if_neg (by simp)]
  refine wpAny_bind (listUpdate_at (xs := #[]) (n := 0) (Heap.get?_push_size _ rfl) rfl ?_ (Nat.zero_le _) (by show (#[] ++ vs.toArray).size ≤ sizeLine + 1; simp only [Array.size_append, List.size_toArray, List.length_nil]; omega))
  refine wpAny_pure ?_
  show wpAny (model prog w) A (do
      let o ← load s.heap.objs.size
      match o.data with
      | .seq xs _ => pure xs.toList
      | _ => unsupported "internal:collect") Q E { s with heap := (s.heap.push (seqObj "list" #[] 0)).update s.heap.objs.size (Obj.mapSeq (· ++ vs.toArray)) }
  refine wpAny_bind (wpAny_load (get?_update_seq (Heap.get?_push_size _ rfl) _) ?_)
  show wpAny _ _ (pure ((#[] : Array Value) ++ vs.toArray).toList) Q E _
  rw [show ((#[] : Array Value) ++ vs.toArray).toList = vs by simp]
  exact wpAny_pure h
theorem sorted_of_sortT {l : Addr} {Q : Value → Shared → Prop} (hl : IsTup s.heap l vs.toArray) (hL : vs.length ≤ sizeLine) (ha1 : argsOk "sorted" ⟨[.ref l], []⟩) (ha2 : ∀ x, argsOk "list.sort" ⟨[.ref x], []⟩)
    (body : ∀ E' : Value → Shared → Prop, wpAny (model prog w) A.in1.in1 (Builtin.«list.sort» ⟨[.ref (s.heap.objs.size + 1)], []⟩) (fun f s' => f = .done (.ret .none) ∧ Q (.ref (s.heap.objs.size + 1)) s') E' { s with heap := copyHeap s.heap vs }) :
    wpAny (model prog w) A (call (.builtin "sorted") [.ref l]) Q E s := by
  refine call_function_entry_kw kind_sorted plain_sorted entry_sorted ha1 ?_
  unfold Builtin.«sorted»
  refine wpAny_bind (m := checkCount "sorted" 1 1 _) (wpAny_pure ?_)
  refine wpAny_bind (collect_tup hl ?_ hL)
  refine wpAny_bind (wpAny_newList ?_ hL)
  have hsz : ((s.heap.push (seqObj "list" #[] 0)).update s.heap.objs.size (Obj.mapSeq (· ++ vs.toArray))).objs.size = s.heap.objs.size + 1 := by
    rw [Heap.size_update, size_push']
  show wpAny _ _ _ _ _ { s with heap := copyHeap s.heap vs }
  rw [hsz]
  refine wpAny_bind (wpAny_holding (wpAny_call_entry_kw slot_list_sort ⟨_, copyHeap_at s.heap vs, rfl⟩ entry_list_sort ?body (ha2 _)))
  case body =>
    show wpAny (model prog w) A.in1.in1 (Builtin.«list.sort» ⟨[.ref (s.heap.objs.size + 1)], []⟩) _ _ _
    refine wpAny_mono (body _) (fun f s' hf => ?_) fun _ _ e => e
    obtain ⟨rfl, hq⟩ := hf
    exact ⟨_, rfl, wpAny_pure ⟨_, rfl, hq⟩⟩
theorem sorted_dataT {l : Addr} {Q : Value → Shared → Prop} (hl : IsTup s.heap l vs.toArray) (e : EachIs R vs bs) (er : EachIs (fun v b => ∃ as, Reads s.heap v (enc b) as) vs bs) (hal : AllAlike (bs.map enc)) (hk : Sortable (bs.map enc)) (hL : bs.length ≤ sizeLine)
    (hu : ∀ b, b ∈ bs → A.units + 2 + (enc b).depth < cLine) (h : ∀ out, out.length = bs.length → EachIs R out (bs.mergeSort (dataLe false enc)) → Q (.ref (s.heap.objs.size + 1)) { s with heap := sortedAll s.heap vs (List.toArray out) }) :
    wpAny (model prog w) A (call (.builtin "sorted") [.ref l]) Q E s := by
  have er' : EachIs (fun v b => ∃ as, Reads (sortingHeap (copyHeap s.heap vs) (s.heap.objs.size + 1) vs) v (enc b) as) vs bs := er.mono fun _ _ ⟨as, r⟩ => ⟨as, PyProof.Rows.Reads.keeps (fun _ _ => sorting_copy_old) r⟩
  have S := SortsAt.data (A := A.in1.in1) (prog := prog) (w := w) (s := { s with heap := sortingHeap (copyHeap s.heap vs) (s.heap.objs.size + 1) vs }) (each_map (R := fun v d => ∃ as, Reads (sortingHeap (copyHeap s.heap vs) (s.heap.objs.size + 1) vs) v d as) enc er') hal hk (bound_map hu)
  have hLv : vs.length ≤ sizeLine := by rw [e.length]; exact hL
  exact sorted_of_sortT hl hLv (args_sorted1 _) (fun _ => args_list_sort _) fun _ => list_sort_vals (s := { s with heap := copyHeap s.heap vs }) (copyHeap_at s.heap vs) S hLv ⟨rfl, h _ (by rw [sortVals_length false rfl]; exact e.length) (sortVals_data false e er' hal)⟩
end
end PV

set_option Elab.async false
set_option linter.all false
set_option autoImplicit false
set_option maxRecDepth 100000
/-! PV10: repr, sorted, in, index. -/
namespace PV
open PySem PySem.Spec L2

/-! ### weight of data: how long its text can be -/
mutual
def wt : PyData → Nat
  | .int i => if i.natAbs < 10 ^ 18 then 20 else if i.natAbs < 10 ^ 60 then 62 else if i.natAbs.log2 < 1920 then 2000 else 10000000
  | .str x => (reprText x).length
  | .none => 10
  | .bool _ => 10
  | .list xs => 3 + wtAll xs
  | .tuple xs => 3 + wtAll xs
  | _ => 10000000
def wtAll : List PyData → Nat
  | [] => 0
  | x :: xs => wt x + 2 + wtAll xs
end
theorem shownAll_len : ∀ ds : List PyData, (PyData.shownAll ds).length = ds.length
  | [] => rfl
  | d :: ds => congrArg (· + 1) (shownAll_len ds)
mutual
theorem shown_wt : ∀ d : PyData, wt d ≤ 1000000 → d.showable = true ∧ d.hasDict = false ∧ d.shown.length ≤ wt d
  | .none, _ => ⟨rfl, rfl, by decide +kernel⟩
  | .bool true, _ => ⟨rfl, rfl, by decide +kernel⟩
  | .bool false, _ => ⟨rfl, rfl, by decide +kernel⟩
  | .str x, _ => ⟨rfl, rfl, Nat.le_refl _⟩
  | .int i, h => by
    have hs : i.natAbs.log2 < 1920 := by
      simp only [wt] at h
      split at h
      · rename_i h1
        by_cases h0 : i.natAbs = 0
        · rw [h0]; decide
        · have := (Nat.log2_lt h0 (k := 60)).mpr (Nat.lt_of_lt_of_le h1 (by decide))
          omega
      · split at h
        · rename_i h1
          by_cases h0 : i.natAbs = 0
          · rw [h0]; decide
          · have := (Nat.log2_lt h0 (k := 200)).mpr (Nat.lt_of_lt_of_le h1 (by decide))
            omega
        · split at h
          · assumption
          · omega
    refine ⟨by simp only [PyData.showable]; exact decide_eq_true hs, rfl, ?_⟩
    simp only [wt, PyData.shown]
    split
    · rename_i h1
      have := int_text_length_le10 (k := 18) (by decide) h1
      rw [ofString_length]
      omega
    · split
      · rename_i h1
        have := int_text_length_le10 (k := 60) (by decide) h1
        rw [ofString_length]
        omega
      · have := int_text_length_le (k := 1920) (by decide) hs
        rw [ofString_length]
        omega
  | .list xs, h => by
    simp only [wt] at h
    obtain ⟨h1, h2, h3⟩ := shown_wtAll xs (by omega)
    refine ⟨h1, h2, ?_⟩
    simp only [wt, PyData.shown]
    have := listText_len_le (PyData.shownAll xs)
    rw [shownAll_len] at this
    omega
  | .tuple xs, h => by
    simp only [wt] at h
    obtain ⟨h1, h2, h3⟩ := shown_wtAll xs (by omega)
    refine ⟨h1, h2, ?_⟩
    simp only [wt, PyData.shown]
    have := tupleText_len_le (PyData.shownAll xs)
    rw [shownAll_len] at this
    omega
  | .dict kvs, h => by simp only [wt] at h; omega
theorem shown_wtAll : ∀ ds : List PyData, wtAll ds ≤ 1000000 → PyData.showableAll ds = true ∧ PyData.hasDictAll ds = false ∧ ((PyData.shownAll ds).map (·.length)).sum + 2 * ds.length ≤ wtAll ds
  | [], _ => ⟨rfl, rfl, Nat.le_refl _⟩
  | d :: ds, h => by
    simp only [wtAll] at h
    obtain ⟨h1, h2, h3⟩ := shown_wt d (by omega)
    obtain ⟨h4, h5, h6⟩ := shown_wtAll ds (by omega)
    refine ⟨by simp only [PyData.showableAll, h1, h4]; rfl, by simp only [PyData.hasDictAll, h2, h5]; rfl, ?_⟩
    simp only [wtAll, PyData.shownAll, List.map_cons, List.sum_cons, List.length_cons]
    omega
end
def reprD1 (d : PyData) : Tr Sl := ok (wt d ≤ 1000000 ∧ d.depth ≤ 60) (rI (.str d.shown))
section
variable {X : Cx} {K : PySem.W.Frag} {R Z Z' : Hp} {S : Src} {H H' : Hp} {σ : St} {env : Ev}
theorem repr_V1 {k : Nat} (hr : Room k X.A) (hG : X.A.guards = some []) (hc : X.calm = true) : CallV1 X (.builtin "repr") reprD1 := by
  rintro pins s σ H xs us Q I r ⟨R, Z, S, v, d, rfl, g, b, h⟩
  obtain ⟨⟨hw, hdp⟩, h⟩ := ok_all h
  obtain ⟨h1, h2, h3⟩ := shown_wt d hw
  have hsz : d.shown.length ≤ sizeLine := line_of (by omega)
  have hu := hr.units
  cases r with
  | cons rv rt =>
    rename_i u ut
    cases rt
    have D := b.dp g
    obtain ⟨as, rd⟩ := Dp.reads I d v u D rv
    cases d with
    | none => cases D; cases rv; exact PySem.P.repr_of_none ⟨.str _, H, I.tok _, ⟨_, rfl⟩, PR.imm h g (.str _)⟩
    | bool b => cases D; cases rv; exact PySem.P.repr_of_bool ⟨.str _, H, I.tok _, ⟨_, rfl⟩, PR.imm h g (.str _)⟩
    | int i =>
      cases D
      obtain ⟨t, rfl⟩ := rv
      exact PySem.P.repr_of_int (of_decide_eq_true h1) ⟨.str _, H, I.tok _, ⟨_, rfl⟩, PR.imm h g (.str _)⟩
    | str x =>
      cases D
      obtain ⟨t, rfl⟩ := rv
      exact PySem.P.repr_of_str ⟨.str _, H, I.tok _, ⟨_, rfl⟩, PR.imm h g (.str _)⟩ hsz
    | list ds =>
      cases D
      cases rv
      exact repr_of_reads' rd h1 (PyData.noDict_hsm h2) hG (by omega) (fun _ _ e => e) (fun h' u tk hk => ⟨.str _, H, I.kept hk, ⟨_, rfl⟩, PR.imm h g (.str _)⟩) hsz
    | tuple ds =>
      cases D
      cases rv
      exact repr_of_reads' rd h1 (PyData.noDict_hsm h2) hG (by omega) (fun _ _ e => e) (fun h' u tk hk => ⟨.str _, H, I.kept hk, ⟨_, rfl⟩, PR.imm h g (.str _)⟩) hsz
    | dict _ => simp [PyData.hasDict] at h2
end

/-! ### sorted(list) -/
instance instAllAlike (ds : List PyData) : Decidable (PySem.W.AllAlike ds) := by unfold PySem.W.AllAlike; infer_instance
def headed : PyData → Bool
  | .tuple (_ :: _) => true
  | _ => false
def flatKey : PyData → Bool
  | .none => false
  | .tuple _ => false
  | _ => true
def SortOk (ds : List PyData) : Prop := PySem.W.AllAlike ds ∧ (ds.all headed = true ∨ ds.all flatKey = true) ∧ ds.length ≤ 1000000 ∧ PyData.depthAll ds ≤ 60
instance (ds : List PyData) : Decidable (SortOk ds) := by unfold SortOk; infer_instance
def sortD (ds : List PyData) : List PyData := ds.mergeSort (PySem.W.dataLe false id)
def sortedD1 : PyData → Tr Sl
  | .list ds => ok (SortOk ds) (.ret (.lst (sortD ds)))
  | .tuple ds => ok (SortOk ds) (.ret (.lst (sortD ds)))
  | _ => .bad
theorem SortOk.key {ds : List PyData} (h : SortOk ds) : PySem.W.Sortable ds := by
  rcases h.2.1 with q | q
  · refine .inl fun d hd => ?_
    have := List.all_eq_true.mp q d hd
    unfold headed at this
    split at this
    · exact ⟨_, _, rfl⟩
    · cases this
  · refine .inr fun d hd => ?_
    have := List.all_eq_true.mp q d hd
    unfold flatKey at this
    split at this
    · cases this
    · cases this
    · rename_i h1 h2
      exact ⟨h1, h2⟩
theorem depth_le_all {d : PyData} : ∀ {ds : List PyData}, d ∈ ds → d.depth ≤ PyData.depthAll ds
  | _ :: _, .head _ => by simp only [PyData.depthAll]; exact Nat.le_max_left _ _
  | _ :: _, .tail _ h => by simp only [PyData.depthAll]; exact Nat.le_trans (depth_le_all h) (Nat.le_max_right _ _)
section
variable {X : Cx} {K : PySem.W.Frag} {R Z Z' : Hp} {S : Src} {H H' : Hp} {σ : St} {env : Ev}
theorem each_of {W : Value → PyData → Prop} (hW : ∀ u d v, RelV v u → Rp K Z v d → W u d) : ∀ {ds : List PyData} {vs : List V} {us : List Value}, RpAll K Z vs ds → Vals vs us → PySem.W.EachIs W us ds
  | _, _, _, .nil, .nil => .nil
  | _, _, _, .cons a q, .cons r t => .cons (hW _ _ _ r a) (each_of hW q t)
theorem each_to {ds : List PyData} {us : List Value} (h : PySem.W.EachIs (fun u d => ∃ v, RelV v u ∧ Rp K Z v d) us ds) : ∃ vs, Vals vs us ∧ RpAll K Z vs ds := by
  induction h with
  | nil => exact ⟨[], .nil, .nil⟩
  | cons a _ ih =>
    obtain ⟨v, h1, h2⟩ := a
    obtain ⟨vs, h3, h4⟩ := ih
    exact ⟨v :: vs, .cons h1 h3, .cons h2 h4⟩
theorem sorted_V1 {k : Nat} (hr : Room k X.A) (hG : X.A.guards = some []) (hc : X.calm = true) : CallV1 X (.builtin "sorted") sortedD1 := by
  rintro pins s σ H xs us Q I r ⟨R, Z, S, v, d, rfl, g, b, h⟩
  cases d with
  | list ds =>
    obtain ⟨so, h⟩ := ok_all h
    obtain ⟨a, vs, rfl, ha, ra⟩ := b.list g
    obtain ⟨its, rv, hl, hn⟩ := I.list (SqL.of ha)
    rw [Vals.ref1 r]
    have hu := hr.units
    have e := each_of (W := fun u d => ∃ v, RelV v u ∧ Rp X.K Z v d) (fun u d v r a => ⟨v, r, a⟩) ra rv
    have er := each_of (W := fun u d => ∃ as, Reads s.heap u (id d) as) (fun u d v r a => Dp.reads I d v u (a.mono g.z).dp r) ra rv
    refine PySem.W.sorted_data (enc := id) hl.isList e er (by rw [List.map_id]; exact so.1) (by rw [List.map_id]; exact so.key) (by rw [← ra.length]; exact hn) (fun d hd => ?_) fun out ho ee => ?_
    · have := depth_le_all hd
      have := so.2.2.2
      show X.A.units + 2 + d.depth < cLine
      omega
    · obtain ⟨ws, h3, h4⟩ := each_to ee
      obtain ⟨ep, he'⟩ := PyProof.Rows.sortedAll_at s.heap its out.toArray
      have hlen : ws.length ≤ sizeLine := by rw [h4.length, List.length_mergeSort, ← ra.length]; exact hn
      exact ⟨.ref _, upd H (s.heap.objs.size + 1) (.lst ws), I.laid (t' := s.toks) (fun _ _ => PyProof.Rows.sortedAll_old) (Nat.le_succ _) ⟨hlen, out, ep, h3, he'⟩, rfl, PR.newLst h g h4 _ (I.hok.fresh (Nat.le_succ _))⟩
  | tuple ds =>
    obtain ⟨so, h⟩ := ok_all h
    obtain ⟨a, vs, rfl, ha, ra⟩ := b.tuple g
    obtain ⟨its, rv, hl, hn⟩ := I.tuple ha
    rw [Vals.ref1 r]
    have hu := hr.units
    have e := each_of (W := fun u d => ∃ v, RelV v u ∧ Rp X.K Z v d) (fun u d v r a => ⟨v, r, a⟩) ra rv
    have er := each_of (W := fun u d => ∃ as, Reads s.heap u (id d) as) (fun u d v r a => Dp.reads I d v u (a.mono g.z).dp r) ra rv
    refine sorted_dataT (enc := id) hl e er (by rw [List.map_id]; exact so.1) (by rw [List.map_id]; exact so.key) (by rw [← ra.length]; exact hn) (fun d hd => ?_) fun out ho ee => ?_
    · have := depth_le_all hd
      have := so.2.2.2
      show X.A.units + 2 + d.depth < cLine
      omega
    · obtain ⟨ws, h3, h4⟩ := each_to ee
      obtain ⟨ep, he'⟩ := PyProof.Rows.sortedAll_at s.heap its out.toArray
      have hlen : ws.length ≤ sizeLine := by rw [h4.length, List.length_mergeSort, ← ra.length]; exact hn
      exact ⟨.ref _, upd H (s.heap.objs.size + 1) (.lst ws), I.laid (t' := s.toks) (fun _ _ => PyProof.Rows.sortedAll_old) (Nat.le_succ _) ⟨hlen, out, ep, h3, he'⟩, rfl, PR.newLst h g h4 _ (I.hok.fresh (Nat.le_succ _))⟩
  | _ => exact h.elim
end

/-! ### in, index -/
def inD (d e : PyData) : Tr Sl := match e with
  | .list ds => ok (SeqAt.shaped d = true ∧ SeqAt.shaped (.list ds) = true) (rB (ds.any fun z => PyData.eqv z d))
  | .tuple ds => ok (SeqAt.shaped d = true ∧ SeqAt.shaped (.tuple ds) = true) (rB (ds.any fun z => PyData.eqv z d))
  | _ => .bad
def notinD (d e : PyData) : Tr Sl := match e with
  | .list ds => ok (SeqAt.shaped d = true ∧ SeqAt.shaped (.list ds) = true) (rB (!ds.any fun z => PyData.eqv z d))
  | .tuple ds => ok (SeqAt.shaped d = true ∧ SeqAt.shaped (.tuple ds) = true) (rB (!ds.any fun z => PyData.eqv z d))
  | _ => .bad
def firstAt (d : PyData) : List PyData → Option Nat
  | [] => none
  | z :: zs => if PyData.eqv z d = true then some 0 else (firstAt d zs).map (· + 1)
def indexD : PyData → PyData → Tr Sl
  | .list ds, d => ok (SeqAt.shaped d = true ∧ SeqAt.shaped (.list ds) = true) (match firstAt d ds with
    | some j => rN (j : Nat)
    | none => .bad)
  | .tuple ds, d => ok (SeqAt.shaped d = true ∧ SeqAt.shaped (.tuple ds) = true) (match firstAt d ds with
    | some j => rN (j : Nat)
    | none => .bad)
  | _, _ => .bad
section
variable {X : Cx} {K : PySem.W.Frag} {R Z Z' : Hp} {S : Src} {H H' : Hp} {σ : St} {env : Ev}
theorem Room.units65 {k : Nat} {A : Around} (r : Room k A) : A.units + 65 < cLine := by have := r.un; omega
theorem in_V {k : Nat} (hr : Room k X.A) : OpV X (compareOp .In) inD := by
  rintro pins s σ H x y v u Q I rx ry ⟨R, Z, S, d, e, g, bx, by_, h⟩
  unfold inD at h
  split at h
  · rename_i ds
    obtain ⟨⟨h1, h2⟩, h⟩ := ok_all h
    exact op_inD (Room.units65 hr) pins s σ H x y v u Q I rx ry ⟨d, ds, bx.dp g, by_.dp g, h1, h2, PR.imm h g (.bl _)⟩
  · rename_i ds
    obtain ⟨⟨sd, se⟩, h⟩ := ok_all h
    obtain ⟨as, r1⟩ := Dp.reads I d x v (bx.dp g) rx
    obtain ⟨bs, r2⟩ := Dp.reads I (.tuple ds) y u (by_.dp g) ry
    exact SeqAt.in_tuple_reads r2 r1 (SeqAt.canLay_of_shaped se) (SeqAt.canLay_of_shaped sd) (PyProof.Rows.room_in_shaped sd (Room.units65 hr)) ⟨.bl _, H, I, rfl, PR.imm h g (.bl _)⟩
  · exact h.elim
theorem notin_V {k : Nat} (hr : Room k X.A) : OpV X (compareOp .NotIn) notinD := by
  rintro pins s σ H x y v u Q I rx ry ⟨R, Z, S, d, e, g, bx, by_, h⟩
  unfold notinD at h
  split at h
  · rename_i ds
    obtain ⟨⟨h1, h2⟩, h⟩ := ok_all h
    exact op_notInD (Room.units65 hr) pins s σ H x y v u Q I rx ry ⟨d, ds, bx.dp g, by_.dp g, h1, h2, PR.imm h g (.bl _)⟩
  · rename_i ds
    obtain ⟨⟨sd, se⟩, h⟩ := ok_all h
    obtain ⟨as, r1⟩ := Dp.reads I d x v (bx.dp g) rx
    obtain ⟨bs, r2⟩ := Dp.reads I (.tuple ds) y u (by_.dp g) ry
    exact SeqAt.notIn_tuple_reads r2 r1 (SeqAt.canLay_of_shaped se) (SeqAt.canLay_of_shaped sd) (PyProof.Rows.room_in_shaped sd (Room.units65 hr)) ⟨.bl _, H, I, rfl, PR.imm h g (.bl _)⟩
  · exact h.elim
theorem firstAt_some {d : PyData} : ∀ {ds : List PyData} {j : Nat}, firstAt d ds = some j → (∃ z, ds[j]? = some z ∧ PyData.eqv z d = true) ∧ ∀ (m : Nat) (z' : PyData), m < j → ds[m]? = some z' → PyData.eqv z' d = false
  | [], j, h => by cases h
  | z :: zs, j, h => by
    unfold firstAt at h
    split at h
    · rename_i hz
      cases h
      exact ⟨⟨z, rfl, hz⟩, fun m _ hm => absurd hm (Nat.not_lt_zero _)⟩
    · rename_i hz
      cases hq : firstAt d zs with
      | none => rw [hq] at h; cases h
      | some i =>
        rw [hq] at h
        cases h
        obtain ⟨⟨w, h1, h2⟩, h3⟩ := firstAt_some hq
        refine ⟨⟨w, by simpa using h1, h2⟩, fun m z' hm hz' => ?_⟩
        cases m with
        | zero => simp at hz'; subst hz'; exact Bool.eq_false_iff.mpr hz
        | succ m => exact h3 m z' (Nat.lt_of_succ_lt_succ hm) (by simpa using hz')
end
section
variable {X : Cx} {o e : Expr} {p q : Bool} {mo me : MI} {apos cpos : Pos} {k : Nat}
def indexLD (d e : PyData) : Tr Sl := match d with
  | .list ds => ok (SeqAt.shaped e = true ∧ SeqAt.shaped (.list ds) = true) (match firstAt e ds with
    | some j => rN (j : Nat)
    | none => .bad)
  | _ => .bad
def m2s (f : PyData → PyData → Tr Sl) (ma mb : MI) : ME := fun env => (ma env).bind fun x => match x.1 with
  | .list _ => (mb x.2).bind fun y => (f x.1 y.1).bind fun r => .ret (r, y.2)
  | _ => .bad
theorem ve_indexL (hr : Room k X.A) (ho : VB X p o mo) (he : VI X true e me)
    (hbase : attributeBase o "index" X.env (eval o X.env) = eval o X.env := by rfl)
    (hfew : ((backTo cpos (starEach [e] X.env)).all (fun x => !x.1) && (backToKw cpos (keywordEach [] X.env)).all (fun x => x.1.isSome)
      && decide (([e] : List Expr).length + ([] : List Keyword).length + (if ([] : List Keyword).isEmpty then 0 else 1) < 30)) = true := by rfl)
    (hline : (apos.endLine == cpos.line) = true := by rfl) (hs : starEach [e] X.env = (false, eval e X.env) :: starEach [] X.env := by rfl) (hplain : (backTo cpos (starEach [] X.env)).any (·.1) = false := by rfl) :
    VE X p (.Call (.Attribute o "index" apos) [e] [] cpos) (m2s indexLD mo me) :=
  pe_weak (pe_bm PySem.F.plainAttrs_list PySem.F.slot_list_index PySem.F.type_list_index (mt_indexD (Room.units65 hr)) ho (pa_cons he pa_nil hs) hbase hfew hline hs hplain) fun σ H Q ⟨R, Z, S, env, s, k⟩ => by
    refine ⟨R, Z, S, env, s, all_mono (fun x k v1 Z1 H1 e1 st1 s1 r1 => ?_) (all_bind.mp k)⟩
    split at k
    · rename_i ds hd
      rw [hd] at r1
      obtain ⟨a, vs, rfl, ha, ra⟩ := r1.list s1.g
      refine ⟨.inl ⟨rfl, vs, SqL.of ha⟩, R, Z1, S, x.2, s1, all_mono (fun y k v2 Z2 H2 e2 st2 s2 r2 => ?_) (all_bind.mp k)⟩
      rw [hd] at k
      obtain ⟨⟨h1, h2⟩, k⟩ := ok_all (all_bind.mp k)
      split at k
      · rename_i j hj
        obtain ⟨⟨z, a1, a2⟩, a3⟩ := firstAt_some hj
        have r1' := r1.stay e2 (st2 rfl)
        exact ⟨a, v2, y.1, ds, j, z, rfl, rfl, r1'.dp s2.g, (r2.mono s2.g.z).dp, h2, h1, a1, a2, a3, k _ Z2 H2 (e1.trans e2) (fun hp => (st1 hp).trans (st2 rfl)) s2 ⟨.int _, (fun z => nomatch z), (fun z => nomatch z)⟩⟩
      · exact k.elim
    · exact k.elim
end
end PV

set_option Elab.async false
set_option linter.all false
set_option autoImplicit false
set_option maxRecDepth 100000
/-! PV11: enumerate and zip as what is walked; reversed slices; sums, greatest, least of one. -/
namespace PV
open PySem
open PySem.Sem (wp)
open AutoSeq1 (wpAny_loadPart')
theorem meets_enumerate_newT (l : Addr) (items : Array Value) (n : Nat) (dct : Option Addr) (sl : Array (Option Value)) :
    Meets (Builtin.«enumerate.__new__» ⟨[.type "enumerate", .ref l], []⟩) (fun _ R s => s.heap.get? l = some { cls := .type "tuple", dict := dct, data := .seq items n, slots := sl } ∧
      R (.ok (.ret (.ref (s.heap.push { cls := .type "tuple_iterator", data := .fields #[.ref l, .int 0 0] }).objs.size)))
        { s with heap := (s.heap.push { cls := .type "tuple_iterator", data := .fields #[.ref l, .int 0 0] }).push { cls := .type "enumerate", data := .fields #[.none, .bool false, .ref s.heap.objs.size, rawInt 0, .none, .none] } }) :=
  .of_wp fun prog w A R s h => by
    obtain ⟨hp, g, d, tk, os⟩ := s; obtain ⟨hl, h⟩ := h
    have hsub := sub_enumerate
    have hL : Heap.IsTuple (Shared.heap ⟨hp, g, d, tk, os⟩) l items := ⟨_, hl, rfl, n, rfl⟩
    wp_walk using wpAny_loadPart' hl
    refine wpAny_stack_any fun st => wpAny_pure ?_
    split
    · rename_i c _ _ _ _ _
      cases (c == Value.type "enumerate")
      · wp_walk using wpAny_loadPart' hl, wpAny_pyIter_tuple hL
        exact ⟨_, rfl, h⟩
      · wp_walk using wpAny_loadPart' hl, wpAny_pyIter_tuple hL
        exact ⟨_, rfl, h⟩
    · wp_walk using wpAny_loadPart' hl, wpAny_pyIter_tuple hL
      exact ⟨_, rfl, h⟩
section
variable {prog : Program} {w : World} {A : Around} {E : Value → Shared → Prop} {s : Shared}
theorem call_enumerate_tuple {l : Addr} {items : Array Value} {Q : Value → Shared → Prop} (hL : s.heap.IsTuple l items)
    (h : ∀ h', IsEnum h' (s.heap.objs.size + 1) s.heap.objs.size 0 .none → h'.IsTupleIter s.heap.objs.size l 0 → h'.objs.size = s.heap.objs.size + 2 →
      (∀ b o, s.heap.get? b = some o → h'.get? b = some o) → Q (.ref (s.heap.objs.size + 1)) { s with heap := h' }) :
    wpAny (model prog w) A (call (.type "enumerate") [.ref l]) Q E s := by
  obtain ⟨⟨c, dct, dt, sl⟩, hl, hc, n, hd⟩ := hL
  replace hc : c = .type "tuple" := hc
  replace hd : dt = .seq items n := hd
  subst hc hd
  refine callType_new F.called_enumerate (by decide) (F.typeCall_enumerate_1 _) (F.newCall_enumerate_1 _) (fun obj => F.args_object_init_2 obj _) F.entry_enumerate_new
    (meets_enumerate_newT l items n dct sl) ⟨hl, ?_⟩
  have hz : (s.heap.push { cls := .type "tuple_iterator", data := .fields #[.ref l, .int 0 0] }).objs.size = s.heap.objs.size + 1 := Heap.size_push ..
  show _ ∧ _
  rw [hz]
  have he : IsEnum ((s.heap.push { cls := .type "tuple_iterator", data := .fields #[.ref l, .int 0 0] }).push
      { cls := .type "enumerate", data := .fields #[.none, .bool false, .ref s.heap.objs.size, rawInt 0, .none, .none] }) (s.heap.objs.size + 1) s.heap.objs.size 0 .none := by
    have := Heap.get?_push_size (s.heap.push { cls := .type "tuple_iterator", data := .fields #[.ref l, .int 0 0] })
      (o := { cls := .type "enumerate", data := .fields #[.none, .bool false, .ref s.heap.objs.size, rawInt 0, .none, .none] }) rfl
    rw [hz] at this; exact this
  refine ⟨⟨_, he, rfl⟩, h _ he ⟨_, Heap.get?_push_of_some _ (Heap.get?_push_size _ rfl), rfl, rfl⟩ (by rw [Heap.size_push, hz]) fun b o x => Heap.get?_push_of_some _ (Heap.get?_push_of_some _ x)⟩
/-- a tuple's iterator as what is drawn from -/
theorem drawsT (hh : A.handled = none) {it l : Addr} (hne : l ≠ it) (items : Array Value) : Draws prog w A it [l, it] items.size (fun i v => items[i]? = some v) (fun i h => h.IsTupleIter it l i ∧ h.IsTuple l items) where
  live := fun i h st => let ⟨o, ho, _⟩ := st.1; ⟨o, ho⟩
  frame := fun i h h' st k => by
    obtain ⟨⟨o, ho, r⟩, o2, ho2, r2⟩ := st
    exact ⟨⟨o, k it (by simp) _ ho, r⟩, o2, k l (by simp) _ ho2, r2⟩
  item := fun i s Q E hi st hQ => by
    have hx : items[i]? = some items[i] := Array.getElem?_eq_getElem hi
    refine RZ.nextOf_tuple_item st.1 st.2 hx fun h' a sb => hQ _ h' s.toks hx ⟨a, ?_⟩ sb
    obtain ⟨o, ho, r⟩ := st.2
    exact ⟨o, (sb.2 l hne).trans ho, r⟩
  done := fun s Q E st hE => RZ.nextOf_tuple_end hh st.1 st.2 (Array.getElem?_eq_none (Nat.le_refl _)) hE
end
open PySem.Spec L2
/-- the tuple at a, each item in a new pair, its object told -/
def IteT (K : PySem.W.Frag) (a : Addr) : It :=
  ⟨fun i H => ∃ (xs : List V) (x : V), SqT K H a xs ∧ xs[i]? = some x, fun i H v H' => ∃ T x, v = .ref T ∧ H T = none ∧ (∃ o : Obj, o.dict = none ∧ H' = upd H T (.frz o (.tup [.int (i : Nat), x]))) ∧ ∀ xs, SqT K H a xs → xs[i]? = some x, fun i H => ∃ xs : List V, SqT K H a xs ∧ xs.length = i⟩
/-- the same of a list -/
def IteL (K : PySem.W.Frag) (a : Addr) : It :=
  ⟨fun i H => ∃ (xs : List V) (x : V), SqL K H a xs ∧ xs[i]? = some x, fun i H v H' => ∃ T x, v = .ref T ∧ H T = none ∧ (∃ o : Obj, o.dict = none ∧ H' = upd H T (.frz o (.tup [.int (i : Nat), x]))) ∧ ∀ xs, SqL K H a xs → xs[i]? = some x, fun i H => ∃ xs : List V, SqL K H a xs ∧ xs.length = i⟩
theorem turn_enumT {P : Program} {w : World} {K : PySem.W.Frag} {elts : List Expr} {kk : Nat} {tpos : Pos} (a e it : Addr) (hae : a ≠ e) (hai : a ≠ it) (hne0 : e ≠ it) :
    Turn P w K (.Tuple elts kk tpos) (IteT K a) [e, it] e (fun i h => (∃ old, IsEnum h e it ((i : Nat) : Int) old) ∧ h.IsTupleIter it a i) where
  mem := by simp
  obj := fun i h st b hb => by
    obtain ⟨⟨old, he⟩, ⟨o, ho, hc, hd⟩⟩ := st
    have e' : b = e ∨ b = it := by simpa using hb
    rcases e' with z | z
    · rw [z]; exact ⟨_, he, fun v q => nomatch q⟩
    · rw [z]; exact ⟨o, ho, fun v q => by rw [hd] at q; cases q⟩
  keep := fun i h h' st k => let ⟨⟨old, he⟩, hi⟩ := st; ⟨⟨old, k e (by simp) _ he⟩, hi.at fun o q => k it (by simp) o q⟩
  item := by
    intro X hP hw hK hc i pins s σ H E I hf st hg
    subst hP hw hK
    obtain ⟨⟨old, he⟩, hit⟩ := st
    obtain ⟨xs, x, hq, hx⟩ := hg
    obtain ⟨its, rv, p, hz⟩ := I.tuple hq
    obtain ⟨u, hu, ru⟩ := rv.get hx
    have hel : e < s.heap.objs.size := Heap.lt_size he
    have hil : it < s.heap.objs.size := by obtain ⟨_, q, _⟩ := hit; exact Heap.lt_size q
    have hlt : i < its.toArray.size := by
      have := (List.getElem?_eq_some_iff.mp hu).1
      simpa using this
    refine wpAny_pyNext_enum_itemD (drawsT (A := X.A.in1) (I.ok.hd hc) hai its.toArray) he ⟨hit, p⟩ hlt hne0 (by simp [Ne.symm hae, hne0]) fun y h' tk hy ho hst' hT hsz hk => ?_
    have hyu : y = u := by
      have e1 : its.toArray[i]? = some u := by simpa using hu
      rw [e1] at hy
      exact (Option.some.inj hy).symm
    subst hyu
    have hit' := hst'.1
    refine ⟨_, rfl, wpAny_letOwnedTupleGo_enum (s := { s with heap := h', toks := tk + 1 }) ho fun h'' he' sb => ?_⟩
    have hT2 : h''.get? s.heap.objs.size = some { cls := .type "tuple", data := .seq #[.int i tk, y] } := (sb.2 _ (Nat.ne_of_gt hel)).trans hT
    have new : ObjOk X.prog X.w (upd H s.heap.objs.size (.frz { cls := .type "tuple", data := .seq #[.int i tk, y] } (.tup [.int (i : Nat), x]))) h'' s.heap.objs.size (.frz { cls := .type "tuple", data := .seq #[.int i tk, y] } (.tup [.int (i : Nat), x])) :=
      ⟨hT2, by show 2 ≤ sizeLine; decide, [.int i tk, y], .cons ⟨_, rfl⟩ (.cons ru .nil), ⟨_, hT2, rfl, _, rfl⟩⟩
    have I1 : Inv X pins σ (upd H s.heap.objs.size (.frz { cls := .type "tuple", data := .seq #[.int i tk, y] } (.tup [.int (i : Nat), x]))) { s with heap := h'', toks := tk + 1 } :=
      I.turnedNew (ch := [e, it]) (fun b ob hb q => (sb.2 b (fun z => hb (by simp [z]))).trans (hk b ob (fun z => hb (by simp [z])) (fun z => hb (by simp [z])) q)) hf (Nat.le_refl _) new
    refine ⟨.ref s.heap.objs.size, _, I1, rfl, ⟨_, x, rfl, I.hok.fresh (Nat.le_refl _), ⟨_, rfl, rfl⟩, fun ys hy => by rw [I.tuple_inj hy hq]; exact hx⟩, ⟨⟨y, ?_⟩, hit'.at fun o q => (sb.2 it (Ne.symm hne0)).trans q⟩, fun b hb => ?_⟩
    · have e1 : ((i + 1 : Nat) : Int) = (i : Int) + 1 := by omega
      rw [e1]; exact he'
    · have hb' : b < s.heap.objs.size := by
        have e' : b = e ∨ b = it := by simpa using hb
        rcases e' with z | z
        · rw [z]; exact hel
        · rw [z]; exact hil
      rw [upd_ne (Nat.ne_of_lt hb')]
      exact (hf b hb).1
  done := by
    intro X hP hw hK hc i pins s σ H E I hf st hg
    subst hP hw hK
    obtain ⟨⟨old, he⟩, hit⟩ := st
    obtain ⟨xs, hq, hx⟩ := hg
    obtain ⟨its, rv, p, hz⟩ := I.tuple hq
    obtain ⟨f0, f1, f2, f3, f4, f5⟩ := hf it (by simp)
    have hl := rv.length
    have hn : i = its.toArray.size := by simp; omega
    exact wpAny_pyNext_enum_endD (drawsT (A := X.A.in1) (I.ok.hd hc) hai its.toArray) he (hn ▸ ⟨hit, p⟩) fun h' eb => ⟨rfl, I.turned (t' := s.toks) (fun b o hb q => eb b o hb q) f0 f1 f3 f4 f5⟩
  self := fun A i s Q E st h => let ⟨⟨_, he⟩, _⟩ := st; wpAny_pyIter_enum he h
theorem turn_enumL {P : Program} {w : World} {K : PySem.W.Frag} {elts : List Expr} {kk : Nat} {tpos : Pos} (a e it : Addr) (hae : a ≠ e) (hai : a ≠ it) (hne0 : e ≠ it) :
    Turn P w K (.Tuple elts kk tpos) (IteL K a) [e, it] e (fun i h => (∃ old, IsEnum h e it ((i : Nat) : Int) old) ∧ h.IsListIter it a i) where
  mem := by simp
  obj := fun i h st b hb => by
    obtain ⟨⟨old, he⟩, ⟨o, ho, hc, hd⟩⟩ := st
    have e' : b = e ∨ b = it := by simpa using hb
    rcases e' with z | z
    · rw [z]; exact ⟨_, he, fun v q => nomatch q⟩
    · rw [z]; exact ⟨o, ho, fun v q => by rw [hd] at q; cases q⟩
  keep := fun i h h' st k => let ⟨⟨old, he⟩, hi⟩ := st; ⟨⟨old, k e (by simp) _ he⟩, hi.at fun o q => k it (by simp) o q⟩
  item := by
    intro X hP hw hK hc i pins s σ H E I hf st hg
    subst hP hw hK
    obtain ⟨⟨old, he⟩, hit⟩ := st
    obtain ⟨xs, x, hq, hx⟩ := hg
    obtain ⟨its, rv, p, hz⟩ := I.list hq
    obtain ⟨u, hu, ru⟩ := rv.get hx
    have hel : e < s.heap.objs.size := Heap.lt_size he
    have hil : it < s.heap.objs.size := by obtain ⟨_, q, _⟩ := hit; exact Heap.lt_size q
    have hlt : i < its.toArray.size := by
      have := (List.getElem?_eq_some_iff.mp hu).1
      simpa using this
    refine wpAny_pyNext_enum_itemD (Draws.list (A := X.A.in1) (I.ok.hd hc) it a hai its.toArray) he ⟨hit, p.isList⟩ hlt hne0 (by simp [Ne.symm hae, hne0]) fun y h' tk hy ho hst' hT hsz hk => ?_
    have hyu : y = u := by
      have e1 : its.toArray[i]? = some u := by simpa using hu
      rw [e1] at hy
      exact (Option.some.inj hy).symm
    subst hyu
    have hit' := hst'.1
    refine ⟨_, rfl, wpAny_letOwnedTupleGo_enum (s := { s with heap := h', toks := tk + 1 }) ho fun h'' he' sb => ?_⟩
    have hT2 : h''.get? s.heap.objs.size = some { cls := .type "tuple", data := .seq #[.int i tk, y] } := (sb.2 _ (Nat.ne_of_gt hel)).trans hT
    have new : ObjOk X.prog X.w (upd H s.heap.objs.size (.frz { cls := .type "tuple", data := .seq #[.int i tk, y] } (.tup [.int (i : Nat), x]))) h'' s.heap.objs.size (.frz { cls := .type "tuple", data := .seq #[.int i tk, y] } (.tup [.int (i : Nat), x])) :=
      ⟨hT2, by show 2 ≤ sizeLine; decide, [.int i tk, y], .cons ⟨_, rfl⟩ (.cons ru .nil), ⟨_, hT2, rfl, _, rfl⟩⟩
    have I1 : Inv X pins σ (upd H s.heap.objs.size (.frz { cls := .type "tuple", data := .seq #[.int i tk, y] } (.tup [.int (i : Nat), x]))) { s with heap := h'', toks := tk + 1 } :=
      I.turnedNew (ch := [e, it]) (fun b ob hb q => (sb.2 b (fun z => hb (by simp [z]))).trans (hk b ob (fun z => hb (by simp [z])) (fun z => hb (by simp [z])) q)) hf (Nat.le_refl _) new
    refine ⟨.ref s.heap.objs.size, _, I1, rfl, ⟨_, x, rfl, I.hok.fresh (Nat.le_refl _), ⟨_, rfl, rfl⟩, fun ys hy => by rw [I.list_inj hy hq]; exact hx⟩, ⟨⟨y, ?_⟩, hit'.at fun o q => (sb.2 it (Ne.symm hne0)).trans q⟩, fun b hb => ?_⟩
    · have e1 : ((i + 1 : Nat) : Int) = (i : Int) + 1 := by omega
      rw [e1]; exact he'
    · have hb' : b < s.heap.objs.size := by
        have e' : b = e ∨ b = it := by simpa using hb
        rcases e' with z | z
        · rw [z]; exact hel
        · rw [z]; exact hil
      rw [upd_ne (Nat.ne_of_lt hb')]
      exact (hf b hb).1
  done := by
    intro X hP hw hK hc i pins s σ H E I hf st hg
    subst hP hw hK
    obtain ⟨⟨old, he⟩, hit⟩ := st
    obtain ⟨xs, hq, hx⟩ := hg
    obtain ⟨its, rv, p, hz⟩ := I.list hq
    obtain ⟨f0, f1, f2, f3, f4, f5⟩ := hf it (by simp)
    have hl := rv.length
    have hn : i = its.toArray.size := by simp; omega
    exact wpAny_pyNext_enum_endD (Draws.list (A := X.A.in1) (I.ok.hd hc) it a hai its.toArray) he (hn ▸ ⟨hit, p.isList⟩) fun h' eb => ⟨rfl, I.turned (t' := s.toks) (fun b o hb q => eb b o hb q) f0 f1 f3 f4 f5⟩
  self := fun A i s Q E st h => let ⟨⟨_, he⟩, _⟩ := st; wpAny_pyIter_enum he h
def iEnumA (K : PySem.W.Frag) (ta : TA) : TI := fun σ H R => ta σ H fun vs H1 => ∃ a xs, vs = [.ref a] ∧ ((SqL K H1 a xs ∧ R (IteL K a) H1) ∨ (SqT K H1 a xs ∧ R (IteT K a) H1))
theorem pi_enumA {X : Cx} {e : Expr} {ta : TA} {p pos tpos : Pos} {elts : List Expr} {kk : Nat} (hg : Gl X "enumerate") (hm : X.mg "enumerate" = none) (ha : PA X [e] ta) (hs : starEach [e] X.env = [(false, eval e X.env)] := by rfl) :
    PI X (.Tuple elts kk tpos) (.Call (.Name "enumerate" p) [e] [] pos) (iEnumA X.K ta) := by
  refine ⟨fun pins s σ H R I h => ?_⟩
  refine PyProof.Rows.Call_ (ld_blt I hg hm PyProof.Rows.boot_enumerate (PyProof.Rows.callWith_type1 (thn (ha.run pos pins s σ H _ I h) fun us s1 ⟨vs, H1, I1, r1, q1⟩ => ?_) hs rfl))
  obtain ⟨a, xs, ex, q1⟩ := q1
  subst ex
  cases r1 with
  | cons r rr =>
    cases rr
    cases r
    have fresh2 : ∀ b ∈ [s1.heap.objs.size + 1, s1.heap.objs.size], FpOk X pins H1 b := fun b hb => by
      have e' : b = s1.heap.objs.size + 1 ∨ b = s1.heap.objs.size := by simpa using hb
      have hle : s1.heap.objs.size ≤ b := by
        rcases e' with z | z
        · rw [z]; exact Nat.le_add_right _ _
        · rw [z]; exact Nat.le_refl _
      exact I1.fpOk hle (I1.hok.fresh hle)
    rcases q1 with ⟨hq, q⟩ | ⟨hq, q⟩
    · obtain ⟨its, rv, p', hz⟩ := I1.list hq
      obtain ⟨o, ho⟩ := id p'.isList
      have hlt : a < s1.heap.objs.size := Heap.lt_size ho.1
      refine call_enumerate_list p'.isList fun h' he hit hsz hk => wpAny_pyIter_enum he ?_
      have I2 : Inv X pins σ H1 { s1 with heap := h' } := I1.kept (t' := s1.toks) hk
      exact ⟨s1.heap.objs.size + 1, [s1.heap.objs.size + 1, s1.heap.objs.size], _, _, H1, rfl, I2, turn_enumL a (s1.heap.objs.size + 1) s1.heap.objs.size (Nat.ne_of_lt (Nat.lt_succ_of_lt hlt)) (Nat.ne_of_lt hlt) (Nat.succ_ne_self _), ⟨⟨.none, he⟩, hit⟩, fresh2, q⟩
    · obtain ⟨its, rv, p', hz⟩ := I1.tuple hq
      obtain ⟨o, ho, _⟩ := id p'
      have hlt : a < s1.heap.objs.size := Heap.lt_size ho
      refine call_enumerate_tuple (show s1.heap.IsTuple a its.toArray from p') fun h' he hit hsz hk => wpAny_pyIter_enum he ?_
      have I2 : Inv X pins σ H1 { s1 with heap := h' } := I1.kept (t' := s1.toks) hk
      exact ⟨s1.heap.objs.size + 1, [s1.heap.objs.size + 1, s1.heap.objs.size], _, _, H1, rfl, I2, turn_enumT a (s1.heap.objs.size + 1) s1.heap.objs.size (Nat.ne_of_lt (Nat.lt_succ_of_lt hlt)) (Nat.ne_of_lt hlt) (Nat.succ_ne_self _), ⟨⟨.none, he⟩, hit⟩, fresh2, q⟩
/-- two lists side by side, the pairs' objects told -/
def ItzF (K : PySem.W.Frag) (a b : Addr) : It :=
  ⟨(Itz K a b).go, fun i H v H' => ∃ T x y, v = .ref T ∧ H T = none ∧ (∃ o : Obj, o.dict = none ∧ H' = upd H T (.frz o (.tup [x, y]))) ∧ (∀ xs, SqL K H a xs → xs[i]? = some x) ∧ ∀ ys, SqL K H b ys → ys[i]? = some y, (Itz K a b).stop⟩
theorem turn_zipF {P : Program} {w : World} {K : PySem.W.Frag} {elts : List Expr} {kk : Nat} {tpos : Pos} {a b z TI TO i1 i2 : Addr} (ap : ZipApart z TI TO i1 i2 a b) :
    Turn P w K (.Tuple elts kk tpos) (ItzF K a b) [z, TI, TO, i1, i2] z (fun i h => IsZip h z TI TO .none ∧ IsPair h TI (.ref i1) (.ref i2) ∧ (∃ x y, IsPair h TO x y) ∧ h.IsListIter i1 a i ∧ h.IsListIter i2 b i) where
  mem := (turn_zip (P := P) (w := w) (K := K) (elts := elts) (kk := kk) (tpos := tpos) ap).mem
  obj := (turn_zip (P := P) (w := w) (K := K) (elts := elts) (kk := kk) (tpos := tpos) ap).obj
  keep := (turn_zip (P := P) (w := w) (K := K) (elts := elts) (kk := kk) (tpos := tpos) ap).keep
  done := (turn_zip (P := P) (w := w) (K := K) (elts := elts) (kk := kk) (tpos := tpos) ap).done
  self := (turn_zip (P := P) (w := w) (K := K) (elts := elts) (kk := kk) (tpos := tpos) ap).self
  item := by
    intro X hP hw hK hc i pins s σ H E I hf st hg
    subst hP hw hK
    obtain ⟨hz, hTI, ⟨p0, q0, hTO⟩, hi1, hi2⟩ := st
    obtain ⟨xs, ys, x, y, hx, hy, ex, ey⟩ := hg
    obtain ⟨its, rv, p, hzs⟩ := I.list hx
    obtain ⟨its2, rv2, p2, hzs2⟩ := I.list hy
    obtain ⟨u, hu, ru⟩ := rv.get ex
    obtain ⟨u2, hu2, ru2⟩ := rv2.get ey
    have lt : ∀ b ∈ [z, TI, TO, i1, i2], b < s.heap.objs.size := fun b hb => by
      obtain ⟨o, ho, _⟩ := (turn_zip (P := X.prog) (w := X.w) (K := X.K) (elts := elts) (kk := kk) (tpos := tpos) ap).obj i s.heap ⟨hz, hTI, ⟨p0, q0, hTO⟩, hi1, hi2⟩ b hb
      exact Heap.lt_size ho
    refine wpAny_pyNext_zip_item ap hz hTI hTO hi1 hi2 p.isList p2.isList (x := u) (y := u2) (by simpa using hu) (by simpa using hu2) fun h' g1 g2 g3 g4 g5 g6 g7 => ?_
    refine ⟨_, rfl, wpAny_letOwnedTupleGo_zip (s := { s with heap := h' }) g1 fun h'' z1 sb => ?_⟩
    have hzl := lt z (by simp)
    have hT2 : h''.get? s.heap.objs.size = some { cls := .type "tuple", data := .seq #[u, u2] } := (sb.2 _ (Nat.ne_of_gt hzl)).trans g5
    have new : ObjOk X.prog X.w (upd H s.heap.objs.size (.frz { cls := .type "tuple", data := .seq #[u, u2] } (.tup [x, y]))) h'' s.heap.objs.size (.frz { cls := .type "tuple", data := .seq #[u, u2] } (.tup [x, y])) :=
      ⟨hT2, by show 2 ≤ sizeLine; decide, [u, u2], .cons ru (.cons ru2 .nil), ⟨_, hT2, rfl, _, rfl⟩⟩
    have I1 : Inv X pins σ (upd H s.heap.objs.size (.frz { cls := .type "tuple", data := .seq #[u, u2] } (.tup [x, y]))) { s with heap := h'' } :=
      I.turnedNew (t' := s.toks) (ch := [z, TI, TO, i1, i2]) (fun b ob hb q => by
        simp only [List.mem_cons, List.not_mem_nil, or_false, not_or] at hb
        exact (sb.2 b hb.1).trans (g7 b ob hb.1 hb.2.2.1 hb.2.2.2.1 hb.2.2.2.2 q)) hf (Nat.le_refl _) new
    refine ⟨.ref s.heap.objs.size, _, I1, rfl, ⟨_, x, y, rfl, I.hok.fresh (Nat.le_refl _), ⟨_, rfl, rfl⟩, fun zs hzz => by rw [I.list_inj hzz hx]; exact ex, fun zs hzz => by rw [I.list_inj hzz hy]; exact ey⟩, ⟨z1, ?_, ⟨u, u2, ?_⟩, g3.at fun o q => (sb.2 i1 ap.i1z).trans q, g4.at fun o q => (sb.2 i2 ap.i2z).trans q⟩, fun b hb => ?_⟩
    · exact (sb.2 TI ap.TIz).trans (g7 TI _ ap.TIz ap.TITO ap.TIi1 ap.TIi2 hTI)
    · exact (sb.2 TO ap.TOz).trans g2
    · rw [upd_ne (Nat.ne_of_lt (lt b hb))]
      exact (hf b hb).1
def iZipF (K : PySem.W.Frag) (ta : TA) : TI := fun σ H R => ta σ H fun vs H1 => ∃ a b xs ys, vs = [.ref a, .ref b] ∧ SqL K H1 a xs ∧ SqL K H1 b ys ∧ R (ItzF K a b) H1
theorem pi_zipF {X : Cx} {e e2 : Expr} {ta : TA} {p pos tpos : Pos} {elts : List Expr} {kk : Nat} (hg : Gl X "zip") (hm : X.mg "zip" = none) (ha : PA X [e, e2] ta) (hs : starEach [e, e2] X.env = (false, eval e X.env) :: starEach [e2] X.env := by rfl) (hpl : (backTo pos (starEach [e2] X.env)).any (·.1) = false := by rfl) :
    PI X (.Tuple elts kk tpos) (.Call (.Name "zip" p) [e, e2] [] pos) (iZipF X.K ta) := by
  refine ⟨fun pins s σ H R I h => ?_⟩
  refine PyProof.Rows.Call_ (ld_blt I hg hm PyProof.Rows.boot_zip (PyProof.Rows.callWith_type1 (thn (ha.run pos pins s σ H _ I h) fun us s1 ⟨vs, H1, I1, r1, q1⟩ => ?_) hs hpl))
  obtain ⟨a, b, xs, ys, ex, hx, hy, q⟩ := q1
  subst ex
  cases r1 with
  | cons r rr =>
    cases rr with
    | cons r2 rr2 =>
      cases rr2
      cases r
      cases r2
      obtain ⟨its, rv, p, hz⟩ := I1.list hx
      obtain ⟨its2, rv2, p2, hz2⟩ := I1.list hy
      obtain ⟨o1, ho1⟩ := id p.isList
      obtain ⟨o2, ho2⟩ := id p2.isList
      have l1 : a < s1.heap.objs.size := Heap.lt_size ho1.1
      have l2 : b < s1.heap.objs.size := Heap.lt_size ho2.1
      refine call_zip_2 p.isList p2.isList fun h' g1 g2 g3 g4 g5 g6 g7 => wpAny_pyIter_zip g1 ?_
      have I2 : Inv X pins σ H1 { s1 with heap := h' } := I1.kept (t' := s1.toks) g7
      have ap : ZipApart (s1.heap.objs.size + 4) (s1.heap.objs.size + 2) (s1.heap.objs.size + 3) s1.heap.objs.size (s1.heap.objs.size + 1) a b := by
        have l1' : @LT.lt Nat _ a s1.heap.objs.size := l1
        have l2' : @LT.lt Nat _ b s1.heap.objs.size := l2
        constructor <;> (intro e; have e' : @Eq Nat _ _ := e; clear e; omega)
      refine ⟨s1.heap.objs.size + 4, [s1.heap.objs.size + 4, s1.heap.objs.size + 2, s1.heap.objs.size + 3, s1.heap.objs.size, s1.heap.objs.size + 1], _, _, H1, rfl, I2, turn_zipF ap, ⟨g1, g2, ⟨_, _, g3⟩, g4, g5⟩, fun c hc => ?_, q⟩
      have hle : s1.heap.objs.size ≤ c := by
        simp only [List.mem_cons, List.not_mem_nil, or_false] at hc
        rcases hc with rfl | rfl | rfl | rfl | rfl
        · exact Nat.le_add_right _ _
        · exact Nat.le_add_right _ _
        · exact Nat.le_add_right _ _
        · exact Nat.le_refl _
        · exact Nat.le_add_right _ _
      exact I1.fpOk hle (I1.hok.fresh hle)
def YPairF (n1 n2 : Nat → Option V) (i : Nat) (H : Hp) (v : V) (H' : Hp) : Prop := ∃ T x y, v = .ref T ∧ H T = none ∧ (∃ o : Obj, o.dict = none ∧ H' = upd H T (.frz o (.tup [x, y]))) ∧ n1 i = some x ∧ n2 i = some y
section
variable {K : PySem.W.Frag} {a b d : Addr} {xs ys : List V}
theorem walk_enumT : Walk (IteT K a) xs.length (fun H => SqT K H a xs) (YPairF (fun i => some (.int (i : Nat))) (fun i => xs[i]?)) := by
  refine ⟨fun i _ hi q => ⟨xs, xs[i], q, by simp [hi]⟩, fun _ q => ⟨xs, q, rfl⟩, fun i H v H' _ q y => ?_⟩
  obtain ⟨T, x, h1, h2, h3, h4⟩ := y
  exact ⟨T, .int (i : Nat), x, h1, h2, h3, rfl, h4 xs q⟩
theorem walk_enumL : Walk (IteL K a) xs.length (fun H => SqL K H a xs) (YPairF (fun i => some (.int (i : Nat))) (fun i => xs[i]?)) := by
  refine ⟨fun i _ hi q => ⟨xs, xs[i], q, by simp [hi]⟩, fun _ q => ⟨xs, q, rfl⟩, fun i H v H' _ q y => ?_⟩
  obtain ⟨T, x, h1, h2, h3, h4⟩ := y
  exact ⟨T, .int (i : Nat), x, h1, h2, h3, rfl, h4 xs q⟩
theorem walk_zipF {n : Nat} (hn : n = min xs.length ys.length) : Walk (ItzF K a b) n (fun H => SqL K H a xs ∧ SqL K H b ys) (YPairF (fun i => xs[i]?) (fun i => ys[i]?)) := by
  subst hn
  refine ⟨fun i _ hi q => ?_, fun _ q => ⟨xs, ys, q.1, q.2, by omega⟩, fun i H v H' _ q y => ?_⟩
  · have h1 : i < xs.length := by omega
    have h2 : i < ys.length := by omega
    exact ⟨xs, ys, xs[i], ys[i], q.1, q.2, by simp [h1], by simp [h2]⟩
  · obtain ⟨T, x, z, h1, h2, h3, h4, h5⟩ := y
    exact ⟨T, x, z, h1, h2, h3, h4 xs q.1, h5 ys q.2⟩
end
def enumFrom : Nat → List PyData → List PyData
  | _, [] => []
  | k, d :: ds => .tuple [.int (k : Nat), d] :: enumFrom (k + 1) ds
def zipP : List PyData → List PyData → List PyData
  | d :: ds, e :: es => .tuple [d, e] :: zipP ds es
  | _, _ => []
def wEnum (m : MI) : MW := fun env => (m env).bind fun x => (seq? x.1).bind fun ds => .ret (enumFrom 0 ds, x.2)
def wZip (a b : MI) : MW := fun env => (a env).bind fun x => (b x.2).bind fun y => match x.1, y.1 with
  | .list ds, .list es => .ret (zipP ds es, y.2)
  | _, _ => .bad
section
variable {X : Cx} {K : PySem.W.Frag} {R Z Z' : Hp} {S : Src} {H H' : Hp} {σ : L2.St} {env : Ev} {tg l a b : Expr} {p q : Bool} {m ma mb : MI} {ps pos tpos : Pos} {elts : List Expr} {kk : Nat}
theorem enumFrom_get : ∀ {ds : List PyData} {i k : Nat}, (enumFrom k ds)[i]? = (ds[i]?).map fun d => PyData.tuple [.int ((k + i : Nat) : Int), d]
  | [], i, k => by simp [enumFrom]
  | d :: ds, 0, k => by simp [enumFrom]
  | d :: ds, i + 1, k => by
    simp only [enumFrom, List.getElem?_cons_succ]
    rw [enumFrom_get]
    have e : k + 1 + i = k + (i + 1) := by omega
    rw [e]
theorem enumFrom_length : ∀ {ds : List PyData} {k : Nat}, (enumFrom k ds).length = ds.length
  | [], k => rfl
  | d :: ds, k => congrArg (· + 1) enumFrom_length
theorem zipP_get : ∀ {ds es : List PyData} {i : Nat} {d e : PyData}, ds[i]? = some d → es[i]? = some e → (zipP ds es)[i]? = some (.tuple [d, e])
  | [], es, i, _, _, h, _ => by simp at h
  | _ :: _, [], i, _, _, _, h => by simp at h
  | x :: ds, y :: es, 0, _, _, h1, h2 => by simp at h1 h2; subst h1 h2; rfl
  | x :: ds, y :: es, i + 1, _, _, h1, h2 => by
    simp only [zipP, List.getElem?_cons_succ] at h1 h2 ⊢
    exact zipP_get h1 h2
theorem zipP_length : ∀ {ds es : List PyData}, (zipP ds es).length = min ds.length es.length
  | [], es => by simp [zipP]
  | _ :: _, [] => by simp [zipP]
  | x :: ds, y :: es => by simp only [zipP, List.length_cons]; rw [zipP_length]; omega
theorem pair_step {R' Z' H H' : Hp} {x : V} {n1 n2 : Option V} {d e : PyData} (g : Good R' Z' S H) (y : ∃ T v w, x = .ref T ∧ H T = none ∧ (∃ o : Obj, o.dict = none ∧ H' = upd H T (.frz o (.tup [v, w]))) ∧ n1 = some v ∧ n2 = some w) (r1 : ∀ v, n1 = some v → Rp K Z' v d) (r2 : ∀ v, n2 = some v → Rp K Z' v e) :
    ∃ Z2, Step R' Z' S H Z2 H' ∧ Rp K Z2 x (.tuple [d, e]) := by
  obtain ⟨T, v, w, rfl, hT, ⟨o, hd, rfl⟩, e1, e2⟩ := y
  have t := Step.last (o := .frz o (.tup [v, w])) g hT
  exact ⟨_, t, .tup (TupZ.new hd) (.cons ((r1 v e1).mono t.e) (.cons ((r2 w e2).mono t.e) .nil))⟩
theorem wv_enumL {a : Addr} {vs : List V} {ds : List PyData} (h : Z a = some (.lst vs)) (r : RpAll K Z vs ds) : WV K (IteL K a) S Z (enumFrom 0 ds) := by
  refine ⟨fun H => SqL K H a vs, _, by rw [enumFrom_length, ← r.length]; exact walk_enumL, fun R Z' H e g => .of (g.z _ _ (e _ _ h)), fun i R Z' H x H' hi e g y => ?_⟩
  rw [enumFrom_length] at hi
  have hd : ds[i]? = some ds[i] := List.getElem?_eq_getElem hi
  obtain ⟨v0, hv, rv⟩ := r.get' hd
  obtain ⟨Z2, t, rp⟩ := pair_step (K := K) (d := .int (i : Nat)) (e := ds[i]) g y (fun v q => by cases q; exact .int _) (fun v q => by cases hv.symm.trans q; exact rv.mono e)
  exact ⟨_, Z2, by rw [enumFrom_get, hd]; simp, t, rp⟩
theorem wv_enumT {a : Addr} {vs : List V} {ds : List PyData} (h : TupZ Z a vs ds) (r : RpAll K Z vs ds) : WV K (IteT K a) S Z (enumFrom 0 ds) := by
  refine ⟨fun H => SqT K H a vs, _, by rw [enumFrom_length, ← r.length]; exact walk_enumT, fun R Z' H e g => ((h.mono e).mono g.z).sq, fun i R Z' H x H' hi e g y => ?_⟩
  rw [enumFrom_length] at hi
  have hd : ds[i]? = some ds[i] := List.getElem?_eq_getElem hi
  obtain ⟨v0, hv, rv⟩ := r.get' hd
  obtain ⟨Z2, t, rp⟩ := pair_step (K := K) (d := .int (i : Nat)) (e := ds[i]) g y (fun v q => by cases q; exact .int _) (fun v q => by cases hv.symm.trans q; exact rv.mono e)
  exact ⟨_, Z2, by rw [enumFrom_get, hd]; simp, t, rp⟩
theorem wv_zipL {a b : Addr} {vs ws : List V} {ds es : List PyData} (h : Z a = some (.lst vs)) (r : RpAll K Z vs ds) (h2 : Z b = some (.lst ws)) (r2 : RpAll K Z ws es) : WV K (ItzF K a b) S Z (zipP ds es) := by
  refine ⟨fun H => SqL K H a vs ∧ SqL K H b ws, _, walk_zipF (by rw [zipP_length, r.length, r2.length]), fun R Z' H e g => ⟨.of (g.z _ _ (e _ _ h)), .of (g.z _ _ (e _ _ h2))⟩, fun i R Z' H x H' hi e g y => ?_⟩
  rw [zipP_length] at hi
  have hd : ds[i]? = some ds[i] := List.getElem?_eq_getElem (by omega)
  have he : es[i]? = some es[i] := List.getElem?_eq_getElem (by omega)
  obtain ⟨v0, hv, rv⟩ := r.get' hd
  obtain ⟨w0, hw, rw_⟩ := r2.get' he
  obtain ⟨Z2, t, rp⟩ := pair_step (K := K) (d := ds[i]) (e := es[i]) g y (fun v q => by cases hv.symm.trans q; exact rv.mono e) (fun v q => by cases hw.symm.trans q; exact rw_.mono e)
  exact ⟨_, Z2, zipP_get hd he, t, rp⟩
theorem Rp.isL {v : V} {ds : List PyData} (r : Rp K Z v (.list ds)) : ∃ a vs, v = .ref a ∧ Z a = some (.lst vs) ∧ RpAll K Z vs ds := by
  cases r with
  | lst h q => exact ⟨_, _, rfl, h, q⟩
theorem Rp.isT {v : V} {ds : List PyData} (r : Rp K Z v (.tuple ds)) : ∃ a vs, v = .ref a ∧ TupZ Z a vs ds ∧ RpAll K Z vs ds := by
  cases r with
  | tup h q => exact ⟨_, _, rfl, h, q⟩
theorem vw_enum (ha : VI X p a ma) (_ : X.calm = true) (hg : Gl X "enumerate") (hm : X.mg "enumerate" = none) (hs : starEach [a] X.env = [(false, eval a X.env)] := by rfl) (hs2 : starEach [a] X.env = (false, eval a X.env) :: starEach [] X.env := by rfl) : VWk X (.Tuple elts kk tpos) (.Call (.Name "enumerate" ps) [a] [] pos) (wEnum ma) :=
  pi_weak (pi_enumA hg hm (pa_cons ha pa_nil hs2) hs) fun σ H Q ⟨R, Z, S, env, s, k⟩ => by
    refine ⟨R, Z, S, env, s, all_mono (fun y k v Z1 H1 e1 st1 s1 r1 => ?_) (all_bind.mp k)⟩
    cases hy : y.1 with
    | list ds =>
      rw [hy] at k r1
      obtain ⟨a, vs, rfl, hz, rv⟩ := r1.isL
      exact ⟨a, vs, rfl, .inl ⟨.of (s1.g.z _ _ hz), k _ Z1 H1 e1 s1 (wv_enumL hz rv)⟩⟩
    | tuple ds =>
      rw [hy] at k r1
      obtain ⟨a, vs, rfl, hz, rv⟩ := r1.isT
      exact ⟨a, vs, rfl, .inr ⟨(hz.mono s1.g.z).sq, k _ Z1 H1 e1 s1 (wv_enumT hz rv)⟩⟩
    | _ => rw [hy] at k; exact k.elim
theorem vw_zip (ha : VI X p a ma) (hb : VI X q b mb) (hg : Gl X "zip") (hm : X.mg "zip" = none) (hs : starEach [a, b] X.env = (false, eval a X.env) :: starEach [b] X.env := by rfl) (hs2 : starEach [b] X.env = (false, eval b X.env) :: starEach [] X.env := by rfl) (hpl : (backTo pos (starEach [b] X.env)).any (·.1) = false := by rfl) :
    VWk X (.Tuple elts kk tpos) (.Call (.Name "zip" ps) [a, b] [] pos) (wZip ma mb) :=
  pi_weak (pi_zipF hg hm (pa_cons ha (pa_cons hb pa_nil hs2) hs) hs hpl) fun σ H Q ⟨R, Z, S, env, s, k⟩ => by
    refine ⟨R, Z, S, env, s, all_mono (fun y k v Z1 H1 e1 st1 s1 r1 => ?_) (all_bind.mp k)⟩
    refine ⟨R, Z1, S, y.2, s1, all_mono (fun z k w Z2 H2 e2 st2 s2 r2 => ?_) (all_bind.mp k)⟩
    split at k
    · rename_i ds es h1 h2
      rw [h1] at r1
      rw [h2] at r2
      obtain ⟨a, vs, rfl, hz, rv⟩ := r1.isL
      obtain ⟨b, ws, rfl, hz2, rw_⟩ := r2.isL
      exact ⟨a, b, vs, ws, rfl, .of (s2.g.z _ _ (e2 _ _ hz)), .of (s2.g.z _ _ hz2), k _ Z2 H2 (e1.trans e2) s2 (wv_zipL (e2 _ _ hz) (rv.mono e2) hz2 rw_)⟩
    · exact k.elim
end
end PV

set_option Elab.async false
set_option linter.all false
set_option autoImplicit false
set_option maxRecDepth 100000
/-! PV12: dict(pairs) with tuples as keys, of a list, of a tuple. -/
namespace PV
open PySem PySem.Spec PyProof.Rows
open L2 (Key kV KT mixKind valV putK)

def mergedH (acc : List (List Key × Addr × Value)) (more : List (List Key × Addr × Value)) : List (List Key × Addr × Value) := more.foldl (fun a q => storedH a q.1 q.2.1 q.2.2) acc
theorem storedH_len (xs : List (List Key × Addr × Value)) (k : List Key) (a : Addr) (v : Value) : (storedH xs k a v).length ≤ xs.length + 1 := by
  unfold storedH
  split
  · simp
  · simp
theorem tuple_keys_none : typeLookup (.type "tuple") "keys" = pure none := am_miss_of_fast (by first | decide +kernel | rfl)
/-- what an iterator over items does -/
structure Tur (prog : Program) (w : World) (A : Around) (I : Addr) (items : Array Value) (It : Nat → Heap → Prop) : Prop where
  item : ∀ i x (s : Shared) (Q : Option Value → Shared → Prop) (E : Value → Shared → Prop), items[i]? = some x → It i s.heap → (∀ h', It (i + 1) h' → Heap.SameBut I s.heap h' → Q (some x) { s with heap := h' }) → wpAny (model prog w) A (pyNext (.ref I)) Q E s
  done : ∀ i (s : Shared) (Q : Option Value → Shared → Prop) (E : Value → Shared → Prop), items.size = i → It i s.heap → (∀ h', Heap.ExtBut I s.heap h' → Q none { s with heap := h' }) → wpAny (model prog w) A (pyNext (.ref I)) Q E s
  keep : ∀ i h h' S o es ep, It i h → h.get? S = some o → o.data = .dict es ep → Heap.SameBut S h h' → It i h'
section
variable {prog : Program} {w : World} {A : Around} {E : Value → Shared → Prop}
theorem tur_list (hh : A.handled = none) (I l : Addr) (items : Array Value) : Tur prog w A I items (fun i h => h.IsListIter I l i ∧ h.IsList l items) where
  item := fun i x s Q E hx st hQ => by
    refine wpAny_pyNext_list_item st.1 st.2 hx fun h1 a sb => hQ h1 ⟨a, ?_⟩ sb
    obtain ⟨o, ho, hc, n, hd⟩ := st.2
    have hne : l ≠ I := fun z => by
      obtain ⟨o2, ho2, hc2, _⟩ := st.1
      rw [z, ho2] at ho
      cases ho
      rw [hc] at hc2
      simp at hc2
    exact ⟨o, (sb.2 l hne).trans ho, hc, n, hd⟩
  done := fun i s Q E hn st hQ => wpAny_pyNext_list_end hh st.1 st.2 (Array.getElem?_eq_none (Nat.le_of_eq hn)) hQ
  keep := fun i h h' S o es ep st hS hd sb => by
    obtain ⟨⟨o1, h1, c1, d1⟩, o2, h2, c2, n2, d2⟩ := st
    have n1 : I ≠ S := fun z => by rw [z, hS] at h1; cases h1; rw [hd] at d1; cases d1
    have n2' : l ≠ S := fun z => by rw [z, hS] at h2; cases h2; rw [hd] at d2; cases d2
    exact ⟨⟨o1, (sb.2 I n1).trans h1, c1, d1⟩, o2, (sb.2 l n2').trans h2, c2, n2, d2⟩
theorem tur_tuple (hh : A.handled = none) (I l : Addr) (items : Array Value) : Tur prog w A I items (fun i h => h.IsTupleIter I l i ∧ h.IsTuple l items) where
  item := fun i x s Q E hx st hQ => by
    refine wpAny_pyNext_tuple_item st.1 st.2 hx fun h1 a sb => hQ h1 ⟨a, ?_⟩ sb
    obtain ⟨o, ho, hc, n, hd⟩ := st.2
    have hne : l ≠ I := fun z => by
      obtain ⟨o2, ho2, hc2, _⟩ := st.1
      rw [z, ho2] at ho
      cases ho
      rw [hc] at hc2
      simp at hc2
    exact ⟨o, (sb.2 l hne).trans ho, hc, n, hd⟩
  done := fun i s Q E hn st hQ => wpAny_pyNext_tuple_end hh st.1 st.2 (Array.getElem?_eq_none (Nat.le_of_eq hn)) hQ
  keep := fun i h h' S o es ep st hS hd sb => by
    obtain ⟨⟨o1, h1, c1, d1⟩, o2, h2, c2, n2, d2⟩ := st
    have n1 : I ≠ S := fun z => by rw [z, hS] at h1; cases h1; rw [hd] at d1; cases d1
    have n2' : l ≠ S := fun z => by rw [z, hS] at h2; cases h2; rw [hd] at d2; cases d2
    exact ⟨⟨o1, (sb.2 I n1).trans h1, c1, d1⟩, o2, (sb.2 l n2').trans h2, c2, n2, d2⟩
/-- the walk over the pairs, keys that are tuples -/
theorem upd_loopT {R : Result → Shared → Prop} {S I : Addr} {items : Array Value} {It : Nat → Heap → Prop} {h₀ : Heap} {res : Value} (T : Tur prog w A.in1 I items It) (hu : A.units + 1 < cLine) (hS0 : h₀.get? S = none) (hI0 : h₀.get? I = none) (hSI : S ≠ I) :
    ∀ (rest : List (List Key × Addr × Value)) (i : Nat) (acc : List (List Key × Addr × Value)) (ix : Int) (t : Tok) (s : Shared), items.size = i + rest.length → acc.length + rest.length ≤ sizeLine →
      (∀ (j : Nat) (q : List Key × Addr × Value), rest[j]? = some q → ∃ (b : Addr), items[i + j]? = some (.ref b) ∧ IsTup h₀ b #[.ref q.2.1, q.2.2] ∧ (tupleKind (mixKind prog w)).is h₀ q.1 q.2.1) →
      It i s.heap → (∀ b o, h₀.get? b = some o → s.heap.get? b = some o) → (∀ x ∈ acc, (tupleKind (mixKind prog w)).is h₀ x.1 x.2.1) → s.heap.DictOfH (tupleKind (mixKind prog w)) S acc →
      (∀ h' tk, h'.DictOfH (tupleKind (mixKind prog w)) S (mergedH acc rest) → (∀ b o, h₀.get? b = some o → h'.get? b = some o) → R (.ok (.ret res)) { s with heap := h', toks := tk }) →
      codeAny (model prog w) A (.builtin "dict.update.loop" ⟨[.ref S, .ref I, .int ix t, res], []⟩) R s
  | [], i, acc, ix, t, s, hsz, hln, ht, hit, hk, ha, hm, hR => by
    refine codeAny_builtin L2.ud_entry ?_
    rw [Around.under_plainId L2.ud_plain _]
    show wpAny _ A.in1 (pyNext (.ref I) >>= _) _ _ s
    refine wpAny_bind (T.done i s _ _ (by simpa using hsz) hit fun h' he => ?_)
    show wpAny _ A.in1 (Builtin.Dict.addKeywords S [] >>= _) _ _ _
    refine wpAny_bind (wpAny_pure (wpAny_pure ?_))
    have k2 : ∀ b o, h₀.get? b = some o → h'.get? b = some o := fun b o e => he b o (fun z => by rw [z, hI0] at e; cases e) (hk b o e)
    refine hR h' s.toks ?_ k2
    obtain ⟨o, es, ep, h1, h2, h3, h4, h5, h6⟩ := hm
    refine ⟨o, es, ep, he S o hSI h1, h2, h3, h4, fun x hx => ?_, h6⟩
    obtain ⟨o2, its2, n2, q1, q2⟩ := ha x hx
    exact ⟨o2, its2, n2, k2 _ _ q1, q2⟩
  | q :: rest, i, acc, ix, t, s, hsz, hln, ht, hit, hk, ha, hm, hR => by
    obtain ⟨b, hb, htup, hkey⟩ := ht 0 q rfl
    rw [List.length_cons] at hsz hln
    refine codeAny_builtin L2.ud_entry ?_
    rw [Around.under_plainId L2.ud_plain _]
    show wpAny _ A.in1 (pyNext (.ref I) >>= _) _ _ s
    refine wpAny_bind (T.item i (.ref b) s _ _ (by simpa using hb) hit fun h1 hit1 hs1 => ?_)
    have k1 : ∀ c o, h₀.get? c = some o → h1.get? c = some o := fun c o e => (hs1.2 c (fun z => by rw [z, hI0] at e; cases e)).trans (hk c o e)
    have ht1 : IsTup h1 b #[.ref q.2.1, q.2.2] := htup.keeps k1
    have key1 : (tupleKind (mixKind prog w)).is h1 q.1 q.2.1 := by
      obtain ⟨o2, its2, n2, q1, q2⟩ := hkey
      exact ⟨o2, its2, n2, k1 _ _ q1, q2⟩
    have hm1 : h1.DictOfH (tupleKind (mixKind prog w)) S acc := by
      obtain ⟨o, es, ep, e1, e2, e3, e4, e5, e6⟩ := hm
      refine ⟨o, es, ep, (hs1.2 S hSI).trans e1, e2, e3, e4, fun x hx => ?_, e6⟩
      obtain ⟨o2, its2, n2, q1, q2⟩ := ha x hx
      exact ⟨o2, its2, n2, k1 _ _ q1, q2⟩
    obtain ⟨o, ho, hc, n, hd⟩ := id ht1
    show wpAny _ A.in1 (holding [Value.ref b] _ >>= _) _ _ _
    refine wpAny_bind (wpAny_holding ?_)
    refine wpAny_bind (wpAny_tryCatch ?_)
    unfold Builtin.Dict.pairItems
    refine wpAny_bind (wpAny_typeOf (T := "tuple") ⟨o, ho, hc⟩ ?_)
    rw [if_pos (by first | decide | rfl | simp)]
    refine wpAny_bind (wpAny_seqItems ho hd (wpAny_pure ?_))
    show wpAny _ A.in1 (holding [Value.ref q.2.1, q.2.2] (dictSet S (.ref q.2.1) q.2.2)) _ _ _
    refine wpAny_holding (wpAny_dictSet_heap (tupleKind_room_in1 hu) key1 hm1 (fun h2 hm2 hs2 => ?_) (by omega))
    obtain ⟨oS, esS, epS, g1, g2, g3, _⟩ := id hm1
    refine wpAny_pure ⟨plainId_quiet L2.ud_plain _, upd_loopT (res := res) T hu hS0 hI0 hSI rest (i + 1) (storedH acc q.1 q.2.1 q.2.2) (ix + 1) 0 _ (show items.size = i + 1 + rest.length by omega) ?_ (fun j q' e => ?_) (T.keep _ _ _ _ _ _ _ hit1 g1 g3 hs2) (fun c oc e => (hs2.2 c (fun z => by rw [z, hS0] at e; cases e)).trans (k1 c oc e)) (fun x hx => ?_) hm2 fun h' tk hd' k => ?_⟩
    · have z := storedH_len acc q.1 q.2.1 q.2.2
      omega
    · obtain ⟨b', hb', r⟩ := ht (j + 1) q' (by simpa using e)
      refine ⟨b', ?_, r⟩
      rw [show i + 1 + j = i + (j + 1) by omega]
      exact hb'
    · rcases mem_storedH hx with ⟨y, hy, e1, e2⟩ | ⟨e1, e2⟩
      · rw [e1, e2]; exact ha y hy
      · rw [e1, e2]; exact hkey
    · exact hR h' tk hd' k
/-- a tuple (its object's dict is none) has no 'keys' -/
theorem miss_tuple {s : Shared} {a : Addr} {o : Obj} {xs : Array Value} {k : Nat} {Q : Option Value → Shared → Prop} (hx : s.heap.get? a = some o) (hc : o.cls = .type "tuple") (hdat : o.data = .seq xs k) (hd : o.dict = none) (hA : A.handled = none)
    (h : ∀ h' tk, (∀ b ob, s.heap.get? b = some ob → h'.get? b = some ob) → Q none { s with heap := h', toks := tk }) : wpAny (model prog w) A (getAttr? (.ref a) "keys") Q E s := by
  obtain ⟨c, dct, dat, sl⟩ := o
  simp only at hc hdat hd
  subst hc hdat hd
  obtain ⟨hp, g, d, tk, os⟩ := s
  have hT : ∀ tk', (⟨hp, g, d, tk', os⟩ : Shared).TypeIs (.ref a) "tuple" := fun _ => ⟨_, hx, rfl⟩
  have hmiss := tuple_keys_none
  have hname : (["__module__", "__name__", "__qualname__", "__doc__", "__annotations__"] : List Str).contains "keys" = false := by decide +kernel
  have hsz : ("keys" : Str).length + 100 ≤ sizeLine := by first | size_fits | decide +kernel
  have f1 := sub_AttributeError
  have f3 := PySem.F.slot_tuple_getattribute.lookup
  have f4 := PySem.F.slot_tuple_getattribute.bind (.ref a)
  have f5 := am_tuple_getattr_none
  unfold getAttr? getAttrBy? getAttrBy
  repeat (any_goals (first | assumption | exact hT _ | ((with_reducible show wpAny _ _ (call (Value.builtin "tuple.__getattribute__") _ _) _ _ _); refine call_meets PySem.F.slot_tuple_getattribute (hT _) am_entry_tuple_getattribute (PySem.F.args_tuple_getattribute_2 _ _) (meets_getattribute_miss_tuple a xs k sl "keys" _ hmiss hname hsz) ⟨hx, hA, fun h' tk' e hx' => ?_⟩) | wp_step))
  obtain ⟨t', u', he⟩ := hx'.there
  show wpAny _ _ (getattributeRaised _ _ _ _ _ _ _) _ _ _
  unfold getattributeRaised
  repeat (any_goals (first | assumption | wp_step))
  all_goals first | exact h _ _ hx'.keeps | (dsimp only; repeat (any_goals (first | assumption | exact h _ _ hx'.keeps | wp_step)))

/-- dict(l) of a list or a tuple of pairs, keys that are tuples -/
theorem call_dict_pairsT {s : Shared} {l : Addr} {ol : Obj} {items : Array Value} {n : Nat} {prs : List (List Key × Addr × Value)} {Q : Value → Shared → Prop} (hh : A.handled = none) (hu : A.units + 2 < cLine) (hl : s.heap.get? l = some ol) (hc : ol.cls = .type "list" ∨ ol.cls = .type "tuple") (hd : ol.dict = none)
    (hdat : ol.data = .seq items n) (hsz : items.size = prs.length) (hln : prs.length ≤ sizeLine)
    (ht : ∀ (j : Nat) (q : List Key × Addr × Value), prs[j]? = some q → ∃ (b : Addr), items[j]? = some (.ref b) ∧ IsTup s.heap b #[.ref q.2.1, q.2.2] ∧ (tupleKind (mixKind prog w)).is s.heap q.1 q.2.1)
    (h : ∀ h' tk, h'.DictOfH (tupleKind (mixKind prog w)) s.heap.objs.size (mergedH [] prs) → (∀ b o, s.heap.get? b = some o → h'.get? b = some o) → Q (.ref s.heap.objs.size) { s with heap := h', toks := tk }) :
    wpAny (model prog w) A (call (.type "dict") [.ref l]) Q E s := by
  refine callType_codes (Q₁ := fun obj s₁ => obj = .ref s.heap.objs.size ∧ s₁ = { s with heap := s.heap.push { cls := .type "dict", data := .dict #[] } }) PySem.F.kt_called_dict (PySem.F.kt_typeCall_dict_1 _) PySem.F.entry_dict_init (kt_code_dict_new _ ⟨rfl, rfl⟩) ?_
  rintro obj s₁ ⟨rfl, rfl⟩
  have hnew : (s.heap.push { cls := .type "dict", data := .dict #[] }).DictOfH (tupleKind (mixKind prog w)) s.heap.objs.size [] := Heap.DictOfH.new s.heap
  have k0 : ∀ b o, s.heap.get? b = some o → (s.heap.push { cls := .type "dict", data := .dict #[] }).get? b = some o := fun b o e => Heap.get?_push_of_some _ e
  refine ⟨hnew.typeIs, PySem.F.args_dict_init_2 _ _, ?_⟩
  unfold Builtin.«dict.__init__»
  refine wpAny_bind ?_
  unfold Builtin.Dict.selfAndRest
  refine wpAny_bind (wpAny_notOrdered_dict hnew.typeIs ?_)
  show wpAny _ _ (pure (s.heap.objs.size, [Value.ref l])) _ _ _
  refine wpAny_pure ?_
  show wpAny _ _ (Builtin.Dict.updateFrom "dict.__init__" s.heap.objs.size (.ref l) [] .none) _ _ _
  unfold Builtin.Dict.updateFrom
  have hlt : l < s.heap.objs.size := Heap.lt_size hl
  have ndict : ∀ (h1 : Heap) (tk1 : Nat), (∀ b o, (s.heap.push { cls := .type "dict", data := .dict #[] }).get? b = some o → h1.get? b = some o) → ∀ (oi : Obj) (It : Nat → Heap → Prop), oi.cls = .type "list_iterator" ∨ oi.cls = .type "tuple_iterator" → Tur prog w A.in1.in1 h1.objs.size items It →
      It 0 (h1.push oi) →
      codeAny (model prog w) A.in1 (.builtin "dict.update.loop" ⟨[.ref s.heap.objs.size, .ref h1.objs.size, .int 0 0, .none], []⟩) (wants (fun r s₂ => r = .none ∧ Q (.ref s.heap.objs.size) s₂) E) { s with heap := h1.push oi, toks := tk1 } := by
    intro h1 tk1 hk1 oi It hoi T h0
    have hS1 : s.heap.objs.size < h1.objs.size := by
      have e : (s.heap.push { cls := .type "dict", data := .dict #[] }).get? s.heap.objs.size = some { cls := .type "dict", data := .dict #[] } := Heap.get?_push_size _ rfl
      exact Heap.lt_size (hk1 _ _ e)
    have k2 : ∀ b o, h1.get? b = some o → (h1.push oi).get? b = some o := fun b o e => Heap.get?_push_of_some _ e
    have none_at : ∀ x, s.heap.objs.size ≤ x → s.heap.get? x = none := fun x hx => by
      cases e : s.heap.get? x with
      | none => rfl
      | some o => exact absurd (Heap.lt_size e) (Nat.not_lt.mpr hx)
    refine upd_loopT (prog := prog) (w := w) (A := A.in1) (S := s.heap.objs.size) (I := h1.objs.size) (items := items) (h₀ := s.heap) (res := Value.none) T (by show A.units + 1 + 1 < cLine; omega) (none_at _ (Nat.le_refl _)) (none_at _ (Nat.le_of_lt hS1)) (Nat.ne_of_lt hS1) prs 0 [] 0 0
      { s with heap := h1.push oi, toks := tk1 } (by rw [hsz, Nat.zero_add]) (by rw [List.length_nil, Nat.zero_add]; exact hln)
      (fun j q e => by
        obtain ⟨b, e1, e2, e3⟩ := ht j q e
        exact ⟨b, by rw [Nat.zero_add]; exact e1, e2, e3⟩)
      h0 (fun b o e => k2 _ _ (hk1 _ _ (k0 _ _ e))) (fun x hx => nomatch hx) ?_
      (fun h' tk hd' k => ⟨rfl, h h' tk hd' k⟩)
    obtain ⟨o, es, ep, e1, e2, e3, e4, e5, e6⟩ := hnew
    exact ⟨o, es, ep, k2 _ _ (hk1 _ _ e1), e2, e3, e4, (fun x hx => nomatch hx), e6⟩
  rcases hc with hc | hc
  · refine wpAny_bind (wpAny_typeOf (T := "list") ⟨ol, k0 _ _ hl, hc⟩ ?_)
    rw [if_pos (by first | decide | rfl | simp)]
    refine wpAny_bind (L2.miss_list (k0 _ _ hl) hc hdat hd hh fun h1 tk1 hk1 => ?_)
    rw [if_pos (show (none : Option Value).isNone = true from rfl)]
    refine wpAny_bind (wpAny_rule ?_)
    have hl1 : h1.IsList l items := ⟨ol, hk1 _ _ (k0 _ _ hl), hc, n, hdat⟩
    refine wpAny_bind (wpAny_pyIter_list hl1 ?_)
    have key := ndict h1 tk1 hk1 { cls := .type "list_iterator", data := .fields #[.ref l, .int 0 0] } _ (.inl rfl) (tur_list (A := A.in1.in1) hh _ l items) ⟨⟨_, Heap.get?_push_size _ rfl, rfl, rfl⟩, hl1.at fun o e => Heap.get?_push_of_some _ e⟩
    first
      | exact wpAny_pure ⟨plainId_quiet L2.ud_plain _, key⟩
      | exact wpAny_bind (wpAny_pure (wpAny_pure ⟨plainId_quiet L2.ud_plain _, key⟩))
  · refine wpAny_bind (wpAny_typeOf (T := "tuple") ⟨ol, k0 _ _ hl, hc⟩ ?_)
    rw [if_pos (by first | decide | rfl | simp)]
    refine wpAny_bind (miss_tuple (k0 _ _ hl) hc hdat hd hh fun h1 tk1 hk1 => ?_)
    rw [if_pos (show (none : Option Value).isNone = true from rfl)]
    refine wpAny_bind (wpAny_rule ?_)
    have hl1 : h1.IsTuple l items := ⟨ol, hk1 _ _ (k0 _ _ hl), hc, n, hdat⟩
    refine wpAny_bind (wpAny_pyIter_tuple hl1 ?_)
    have key := ndict h1 tk1 hk1 { cls := .type "tuple_iterator", data := .fields #[.ref l, .int 0 0] } _ (.inr rfl) (tur_tuple (A := A.in1.in1) hh _ l items) ⟨⟨_, Heap.get?_push_size _ rfl, rfl, rfl⟩, ol, Heap.get?_push_of_some _ (hk1 _ _ (k0 _ _ hl)), hc, n, hdat⟩
    first
      | exact wpAny_pure ⟨plainId_quiet L2.ud_plain _, key⟩
      | exact wpAny_bind (wpAny_pure (wpAny_pure ⟨plainId_quiet L2.ud_plain _, key⟩))
end
end PV

set_option Elab.async false
set_option linter.all false
set_option autoImplicit false
set_option maxRecDepth 100000
/-! PV13: dicts by value: dict(..), d[k], d[k] = v, d.get, k in d, walks. -/
namespace PV
open PySem PySem.Spec L2

def mergeT {α β : Type} [DecidableEq α] (kvs more : List (α × β)) : List (α × β) := more.foldl (fun acc kv => if acc.any (fun q => decide (q.1 = kv.1)) then acc.map (fun q => if q.1 = kv.1 then (q.1, kv.2) else q) else acc ++ [kv]) kvs
def putD {α β : Type} [DecidableEq α] (kvs : List (α × β)) (k : α) (v : β) : List (α × β) := if kvs.any (fun kv => decide (kv.1 = k)) then kvs.map (fun kv => if kv.1 = k then (kv.1, v) else kv) else kvs ++ [(k, v)]
def mergeV (kvs more : List (List Key × V)) : List (List Key × V) := more.foldl (fun acc kv => putK acc kv.1 kv.2) kvs
def PairAt (K : PySem.W.Frag) (H : Hp) (v : V) (kv : List Key × V) : Prop := ∃ b ka, v = .ref b ∧ SqT K H b [.ref ka, kv.2] ∧ H ka = some (.tup (kv.1.map kV))
theorem length_mergeV : ∀ (more kvs : List (List Key × V)), (mergeV kvs more).length ≤ kvs.length + more.length
  | [], kvs => Nat.le_refl _
  | q :: more, kvs => by
    have h := length_mergeV more (putK kvs q.1 q.2)
    have h2 := length_putK kvs q.1 q.2
    show (mergeV (putK kvs q.1 q.2) more).length ≤ _
    rw [List.length_cons]
    omega
theorem KT.merge {H : Hp} : ∀ {more : List (List Key × V)} {rs : List (List Key × Addr × Value)} {kvs : List (List Key × V)} {xs : List (List Key × Addr × Value)}, KT H more rs → KT H kvs xs → KT H (mergeV kvs more) (mergedH xs rs)
  | _, _, _, _, .nil, h => h
  | _, _, _, _, .cons (a := p) (b := q) r t, h => by
    have e : q.1 = p.1 := r.1.symm
    have := KT.put h p.1 (b := q.2.1) r.2.1 r.2.2
    show KT H (mergeV (putK _ p.1 p.2) _) (mergedH (storedH _ q.1 q.2.1 q.2.2) _)
    rw [e]
    exact KT.merge t this
section
variable {X : Cx}
theorem pairs_ofT {pins : List (Addr × Obj)} {σ : L2.St} {H : Hp} {s : Shared} (I : Inv X pins σ H s) : ∀ {vs : List V} {us : List Value} {kvs : List (List Key × V)}, Vals vs us → Paired (PairAt X.K H) vs kvs →
    ∃ prs : List (List Key × Addr × Value), KT H kvs prs ∧ prs.length = us.length ∧ ∀ (j : Nat) (q : List Key × Addr × Value), prs[j]? = some q → ∃ (b : Addr), us[j]? = some (.ref b) ∧ PyProof.Rows.IsTup s.heap b #[.ref q.2.1, q.2.2] ∧ (tupleKind (mixKind X.prog X.w)).is s.heap q.1 q.2.1
  | [], _, _, .nil, .nil => ⟨[], .nil, rfl, fun j q e => by simp at e⟩
  | v :: _, u :: _, kv :: _, .cons rv rt, .cons h t => by
    obtain ⟨prs, r, hl, hp⟩ := pairs_ofT I rt t
    obtain ⟨b, ka, e, hs, hka⟩ := h
    subst e
    cases rv
    obtain ⟨its, rv, ht, _⟩ := I.tuple hs
    obtain ⟨u, y, ei, ru, ry⟩ := vals2 rv
    subst ei
    cases ru
    refine ⟨(kv.1, ka, y) :: prs, .cons ⟨rfl, hka, ry⟩ r, by rw [List.length_cons, List.length_cons, hl], fun j q e => ?_⟩
    cases j with
    | zero =>
      have e' : (kv.1, ka, y) = q := Option.some.inj e
      subst e'
      exact ⟨b, rfl, ht, key_of I.hok hka⟩
    | succ j =>
      obtain ⟨b, e1, e2⟩ := hp j q (by simpa using e)
      exact ⟨b, by simpa using e1, e2⟩
theorem call_dictT (hcalm : X.calm = true) (hu : X.A.units + 2 < cLine) : CallR X (.type "dict") (fun xs H Q => ∃ (a : Addr) (vs : List V) (kvs : List (List Key × V)), xs = [.ref a] ∧ (SqL X.K H a vs ∨ ∃ o : Obj, H a = some (.frz o (.tup vs)) ∧ o.dict = none) ∧ Paired (PairAt X.K H) vs kvs ∧
    ∀ p, H p = none → Q (.ref p) (upd H p (.dT (mergeV [] kvs)))) := by
  intro pins s σ H xs us Q I r q
  obtain ⟨a, vs, kvs, ex, hq, hp, q⟩ := q
  subst ex
  obtain ⟨u, eu, rx⟩ := vals1 r
  subst eu
  cases rx
  have fin : ∀ (its : List Value) (o : Obj) (n : Nat), Vals vs its → vs.length ≤ sizeLine → s.heap.get? a = some o → (o.cls = .type "list" ∨ o.cls = .type "tuple") → o.dict = none → o.data = .seq its.toArray n → wpAny (model X.prog X.w) X.A (call (.type "dict") [.ref a]) (EP X pins σ Q) X.xe s := by
    intro its o n rv hz ho hc hd hdat
    obtain ⟨prs, rel, hl, hpr⟩ := pairs_ofT I rv hp
    have hlen := rv.length
    refine call_dict_pairsT (prs := prs) (I.ok.hd hcalm) hu ho hc hd hdat (by simp [hl]) (by rw [hl, ← hlen]; exact hz) (fun j q' e => ?_) fun h' tk hd' k => ?_
    · obtain ⟨b, e1, e2⟩ := hpr j q' e
      exact ⟨b, by simpa using e1, e2⟩
    · have hm : (s.heap.objs.size == sysModules) = false := beq_eq_false_iff_ne.mpr (Nat.ne_of_gt I.big)
      have hlen2 : (mergeV [] kvs).length ≤ sizeLine := by
        refine Nat.le_trans (length_mergeV kvs []) ?_
        rw [List.length_nil, Nat.zero_add, Paired.length rel, hl, ← hlen]
        exact hz
      have rm : KT H (mergeV [] kvs) (mergedH [] prs) := KT.merge rel .nil
      have fr := I.fresh
      have rm2 : KT (upd H s.heap.objs.size (.dT (mergeV [] kvs))) (mergeV [] kvs) (mergedH [] prs) := KT.keeps rm fun b ys e => by
        rw [upd_ne (ne_of_none e fr)]
        exact e
      obtain ⟨oS, es, ep, g1, g2, g3, g4, g5, g6⟩ := hd'
      exact ⟨.ref s.heap.objs.size, upd H s.heap.objs.size (.dT (mergeV [] kvs)), I.laid (t' := tk) k (Nat.le_refl _) (show ObjOk X.prog X.w _ _ _ (.dT (mergeV [] kvs)) from ⟨hlen2, hm, mergedH [] prs, rm2, oS, es, ep, g1, g2, g3, g4, g6⟩), rfl, q _ fr⟩
  rcases hq with hq | ⟨o, hq, hod⟩
  · obtain ⟨its, rv, ⟨o, n, ho, hc, hd, hdat⟩, hz⟩ := I.list hq
    exact fin its o n rv hz ho (.inl hc) hd hdat
  · obtain ⟨ho, hz, its, rv, o2, ho2, hc2, n, hdat⟩ := (show ObjOk X.prog X.w H s.heap a (.frz o (.tup vs)) from I.hok a _ hq)
    rw [ho] at ho2
    cases ho2
    exact fin its o n rv hz ho (.inr hc2) hod hdat
end
end PV

set_option Elab.async false
set_option linter.all false
set_option autoImplicit false
set_option maxRecDepth 100000
/-! PV14: dicts with tuples as keys, by value. -/
namespace PV
open PySem PySem.Spec L2

/-! ### keys -/
def keyI : PyData → Option Key
  | .int i => some (.inl i)
  | .str x => some (.inr x)
  | _ => none
def keysI : List PyData → Option (List Key)
  | [] => some []
  | d :: ds => match keyI d, keysI ds with
    | some k, some ks => some (k :: ks)
    | _, _ => none
def keyD : PyData → Option (List Key) := fun _ => none
def datI : Key → PyData
  | .inl i => .int i
  | .inr x => .str x
def datK (ks : List Key) : PyData := .tuple (ks.map datI)
abbrev KD := List (List Key × PyData)
def valD (kvs : KD) (k : List Key) : Option PyData := (kvs.find? fun kv => decide (kv.1 = k)).map (·.2)
def putT (kvs : KD) (k : List Key) (v : PyData) : KD := if (kvs.any fun kv => decide (kv.1 = k)) = true then kvs.map (fun kv => if kv.1 = k then (kv.1, v) else kv) else kvs ++ [(k, v)]
def mergeD (kvs more : KD) : KD := more.foldl (fun acc kv => putT acc kv.1 kv.2) kvs
section
variable {K : PySem.W.Frag} {R Z Z' : Hp} {S : Src} {H H' : Hp} {σ : L2.St} {env : Ev}
theorem keysI_rp : ∀ {ds : List PyData} {vs : List V} {ks : List Key}, RpAll K Z vs ds → keysI ds = some ks → vs = ks.map kV ∧ ds.all isKeyD = true
  | _, _, _, .nil, h => by cases h; exact ⟨rfl, rfl⟩
  | d :: ds, _, ks, .cons r t, h => by
    unfold keysI at h
    split at h
    · rename_i k ks' h1 h2
      cases h
      obtain ⟨e1, e2⟩ := keysI_rp t h2
      cases d with
      | int i => cases h1; cases r; exact ⟨by rw [e1]; rfl, by simp [isKeyD, e2]⟩
      | str i => cases h1; cases r; exact ⟨by rw [e1]; rfl, by simp [isKeyD, e2]⟩
      | _ => cases h1
    · cases h
theorem rp_key {v : V} {d : PyData} {ks : List Key} (r : Rp K Z v d) (h : keyD d = some ks) : ∃ b, v = .ref b ∧ Z b = some (.tup (ks.map kV)) := by cases h
theorem rp_keys : ∀ (ks : List Key), RpAll K Z (ks.map kV) (ks.map datI)
  | [] => .nil
  | .inl i :: ks => .cons (.int i) (rp_keys ks)
  | .inr x :: ks => .cons (.str x) (rp_keys ks)
abbrev PK (K : PySem.W.Frag) (Z : Hp) : List (List Key × V) → KD → Prop := Paired fun (p : List Key × V) (q : List Key × PyData) => p.1 = q.1 ∧ Rp K Z p.2 q.2
theorem PK.val : ∀ {ws : List (List Key × V)} {kvs : KD} (k : List Key), PK K Z ws kvs → (valV ws k = none ∧ valD kvs k = none) ∨ ∃ v d, valV ws k = some v ∧ valD kvs k = some d ∧ Rp K Z v d
  | _, _, k, .nil => .inl ⟨rfl, rfl⟩
  | p :: ws, q :: kvs, k, .cons r t => by
    by_cases e : p.1 = k
    · have e' : q.1 = k := r.1.symm.trans e
      exact .inr ⟨p.2, q.2, by simp [valV, e], by simp [valD, e'], r.2⟩
    · have e' : ¬ q.1 = k := fun z => e (r.1.trans z)
      rcases PK.val k t with ⟨h1, h2⟩ | ⟨v, d, h1, h2, h3⟩
      · exact .inl ⟨by simpa [valV, e] using h1, by simpa [valD, e'] using h2⟩
      · exact .inr ⟨v, d, by simpa [valV, e] using h1, by simpa [valD, e'] using h2, h3⟩
theorem PK.any : ∀ {ws : List (List Key × V)} {kvs : KD} (k : List Key), PK K Z ws kvs → (ws.any fun kv => decide (kv.1 = k)) = kvs.any fun kv => decide (kv.1 = k)
  | _, _, k, .nil => rfl
  | p :: ws, q :: kvs, k, .cons r t => by
    rw [List.any_cons, List.any_cons, PK.any k t, r.1]
theorem PK.map {v : V} {d : PyData} (r : Rp K Z v d) : ∀ {ws : List (List Key × V)} {kvs : KD} (k : List Key), PK K Z ws kvs → PK K Z (ws.map fun kv => if kv.1 = k then (kv.1, v) else kv) (kvs.map fun kv => if kv.1 = k then (kv.1, d) else kv)
  | _, _, k, .nil => .nil
  | p :: ws, q :: kvs, k, .cons h t => by
    rw [List.map_cons, List.map_cons]
    refine .cons ?_ (PK.map r k t)
    by_cases e : p.1 = k
    · rw [if_pos e, if_pos (h.1.symm.trans e)]; exact ⟨h.1, r⟩
    · rw [if_neg e, if_neg (fun z => e (h.1.trans z))]; exact h
theorem PK.snoc {p : List Key × V} {q : List Key × PyData} (r : p.1 = q.1 ∧ Rp K Z p.2 q.2) : ∀ {ws : List (List Key × V)} {kvs : KD}, PK K Z ws kvs → PK K Z (ws ++ [p]) (kvs ++ [q])
  | _, _, .nil => .cons r .nil
  | _, _, .cons h t => .cons h (PK.snoc r t)
theorem PK.put {v : V} {d : PyData} (r : Rp K Z v d) {ws : List (List Key × V)} {kvs : KD} (k : List Key) (h : PK K Z ws kvs) : PK K Z (putK ws k v) (putT kvs k d) := by
  unfold putK putT
  rw [h.any k]
  split
  · exact h.map r k
  · exact h.snoc ⟨rfl, r⟩
theorem PK.merge : ∀ {more : List (List Key × V)} {mores : KD} {ws : List (List Key × V)} {kvs : KD}, PK K Z more mores → PK K Z ws kvs → PK K Z (mergeV ws more) (mergeD kvs mores)
  | _, _, _, _, .nil, h => h
  | p :: more, q :: mores, ws, kvs, .cons r t, h => by
    have h2 := PK.put r.2 p.1 h
    have e : q.1 = p.1 := r.1.symm
    show PK K Z (mergeV (putK ws p.1 p.2) more) (mergeD (putT kvs q.1 q.2) mores)
    rw [e]
    exact PK.merge t h2
theorem PK.mono {ws : List (List Key × V)} {kvs : KD} (e : Same Z Z') (h : PK K Z ws kvs) : PK K Z' ws kvs := Paired.mapP h fun _ _ z => ⟨z.1, z.2.mono e⟩
theorem PK.len : ∀ {ws : List (List Key × V)} {kvs : KD}, PK K Z ws kvs → ws.length = kvs.length
  | _, _, .nil => rfl
  | _, _, .cons _ t => congrArg (· + 1) (PK.len t)
/-- the dict in slot i, its own or lasting -/
def dictAt (env : Ev) (i : Nat) : Option KD := match env[i]? with
  | some (some (.dT kvs)) => some kvs
  | some (some (.fT kvs)) => some kvs
  | _ => none
theorem SR.dictAt {i : Nat} {kvs : KD} (s : SR K R Z S H σ env) (h : PV.dictAt env i = some kvs) : ∃ a ws, σ[i]? = some (some (.ref a)) ∧ Rd H a (.dT ws) ∧ PK K Z ws kvs := by
  unfold PV.dictAt at h
  split at h
  · rename_i k hk
    cases h
    obtain ⟨v, h1, ⟨a, ws, rfl, ha, hp⟩, h3⟩ := s.sl i _ hk
    exact ⟨a, ws, h1, .inl ha, hp⟩
  · rename_i k hk
    cases h
    obtain ⟨v, h1, ⟨a, od, ws, rfl, ha, hp⟩, h3⟩ := s.sl i _ hk
    exact ⟨a, ws, h1, .inr ⟨od, s.g.z _ _ ha⟩, hp⟩
  · cases h
/-- an own dict's object is told from now on -/
theorem SR.lock {a : Addr} {o : HO} (s : SR K R Z S H σ env) (out : Out R Z S a) (no : ∀ xs, o ≠ HO.tup xs) (f : ∀ (i : Nat) (t : Sl), env[i]? = some (some t) → t.own = true → σ[i]? ≠ some (some (.ref a))) :
    SR K R (upd Z a o) S (upd H a o) σ env ∧ Same Z (upd Z a o) := by
  have e : Same Z (upd Z a o) := Same.upd_new out.2.1
  have gc := s.g.change out no
  refine ⟨⟨⟨gc.r, fun x u h => ?_, gc.s, fun x u h => ?_, fun x n => ⟨(s.g.rs x n).1, ?_⟩, fun x xs h => ?_⟩, s.len, fun i t h => ?_, s.ds⟩, e⟩
  · by_cases hx : x = a
    · subst hx; rw [upd_same] at h ⊢; exact h
    · rw [upd_ne hx] at h ⊢; exact s.g.z x u h
  · have hx : x ≠ a := fun z => by subst z; rw [out.1] at h; cases h
    rw [upd_ne hx]; exact s.g.rz x u h
  · have hx : x ≠ a := fun z => by subst z; exact out.2.2 n
    rw [upd_ne hx]; exact (s.g.rs x n).2
  · have q := gc.tz x xs h
    exact e x _ q
  · obtain ⟨v, h1, h2, h3⟩ := s.sl i t h
    have ne : t.own = true → ∀ b, v = .ref b → b ≠ a := fun ho b hb z => by
      subst z
      rw [hb] at h1
      exact f i t h ho h1
    refine ⟨v, h1, h2.mono e fun b hb ho u hu => ?_, fun ho b hb => ?_⟩
    · rw [upd_ne (ne ho b hb)]; exact hu
    · have q := h3 ho b hb
      exact ⟨q.1, by rw [upd_ne (ne ho b hb)]; exact q.2.1, q.2.2⟩
end

/-! ### {}, d[k], d.get(k, x), k in d, d[k] = v -/
def mDnewT : ME := fun env => .ret (.dT [], env)
def mDget (i : Nat) (m : MI) : ME := fun env => match dictAt env i with
  | none => .bad
  | some _ => (m env).bind fun y => match dictAt y.2 i, keyD y.1 with
    | some kvs, some ks => (match valD kvs ks with
      | some d => .ret (.imm d, y.2)
      | none => .bad)
    | _, _ => .bad
def mDget2 (i : Nat) (m n : MI) : ME := fun env => match dictAt env i with
  | none => .bad
  | some _ => (m env).bind fun y => (n y.2).bind fun z => match dictAt z.2 i, keyD y.1 with
    | some kvs, some ks => .ret (.imm ((valD kvs ks).getD z.1), z.2)
    | _, _ => .bad
def mDin (neg : Bool) (m : MI) (i : Nat) : ME := fun env => (m env).bind fun y => match dictAt y.2 i, keyD y.1 with
  | some kvs, some ks => .ret (.imm (.bool (if neg = true then !(valD kvs ks).isSome else (valD kvs ks).isSome)), y.2)
  | _, _ => .bad
@[irreducible] def sDput (i : Nat) (mk mv : MI) : MS := fun env => (mv env).bind fun v => match dictAt v.2 i with
  | none => .bad
  | some _ => (mk v.2).bind fun y => match y.2[i]?, keyD y.1 with
    | some (some (.dT kvs)), some ks => ok (kvs.length < 1000000) (.ret (.nx, y.2.set i (some (.dT (putT kvs ks v.1)))))
    | _, _ => .bad
section
variable {X : Cx} {o e f : Expr} {p q : Bool} {m n : MI} {pos pos' apos cpos : Pos} {k : Nat}
theorem Room.u1 {A : Around} (r : Room k A) : A.units + 1 < cLine := by have := r.un; omega
theorem Room.u2 {A : Around} (r : Room k A) : A.units + 2 < cLine := by have := r.un; omega
theorem ve_dnewT : VE X true (.Dict [] [] pos) mDnewT := pe_weak pe_dnewT fun σ H Q ⟨R, Z, S, env, s, k⟩ => fun p hp => by
  have t := Step.new (o := .dT []) s.g hp
  refine k (.ref p) _ _ (Same.refl Z) (fun _ => t.st) (s.step t) ⟨⟨p, [], rfl, upd_same, .nil⟩, fun _ b hb => ?_, fun _ i u hi hu q => ?_⟩
  · cases hb; exact s.g.out hp
  · obtain ⟨w, h1, h2, h3⟩ := s.sl i u hi
    rw [h1] at q
    have e1 : w = .ref p := Option.some.inj (Option.some.inj q)
    obtain ⟨b, ob, e2, hob, _⟩ := h2.at hu
    rw [e1] at e2
    cases e2
    rw [hp] at hob; cases hob
theorem ve_dget (hr : Room k X.A) {i : Nat} (ho : PE X o (tVar i)) (he : VI X p e m) (hs : NoSl e := by intro _ _; rfl) : VE X p (.Subscript o e pos) (mDget i m) :=
  pe_weak (pe_dget (Room.u1 hr) ho he hs) fun σ H Q ⟨R, Z, S, env, s, k⟩ => by
    unfold mDget at k
    split at k
    · exact k.elim
    · rename_i kv0 h0
      obtain ⟨a, ws0, hv, _, _⟩ := s.dictAt h0
      refine ⟨_, hv, R, Z, S, env, s, all_mono (fun y k v Z1 H1 e1 st1 s1 r1 => ?_) (all_bind.mp k)⟩
      split at k
      · rename_i kvs ks h1 h2
        split at k
        · rename_i d hd
          obtain ⟨a', ws, hv', hrd, hp⟩ := s1.dictAt h1
          rw [hv] at hv'
          cases hv'
          obtain ⟨b, rfl, hb⟩ := rp_key r1 h2
          rcases hp.val ks with ⟨_, q2⟩ | ⟨w, d', q1, q2, q3⟩
          · rw [hd] at q2; cases q2
          · rw [hd] at q2
            cases q2
            exact ⟨a, w, rfl, .inr ⟨ws, ks, b, hrd, rfl, s1.g.z _ _ hb, q1.symm⟩, k w Z1 H1 e1 st1 s1 ⟨q3, (fun z => nomatch z), (fun z => nomatch z)⟩⟩
        · exact k.elim
      · exact k.elim
theorem ve_dget2 (hr : Room k X.A) {i : Nat} (ho : PE X o (tVar i)) (he : VI X p e m) (hf : VI X q f n)
    (base : attributeBase o "get" X.env (eval o X.env) = eval o X.env := by rfl)
    (few : ((backTo cpos (starEach [e, f] X.env)).all (fun x => !x.1) && (backToKw cpos (keywordEach [] X.env)).all (fun x => x.1.isSome)
      && decide (([e, f] : List Expr).length + ([] : List Keyword).length + (if ([] : List Keyword).isEmpty then 0 else 1) < 30)) = true := by rfl)
    (line : (apos.endLine == cpos.line) = true := by rfl) (trees : backTo cpos (starEach [e, f] X.env) = [(false, eval e X.env), (false, eval f X.env)] := by rfl) :
    VE X (p && q) (.Call (.Attribute o "get" apos) [e, f] [] cpos) (mDget2 i m n) :=
  pe_weak (pe_dget2 (Room.u1 hr) ho he hf ⟨base, few, line, trees⟩) fun σ H Q ⟨R, Z, S, env, s, k⟩ => by
    unfold mDget2 at k
    split at k
    · exact k.elim
    · rename_i kv0 h0
      obtain ⟨a, ws0, hv, hrd0, _⟩ := s.dictAt h0
      refine ⟨_, hv, a, rfl, .inr ⟨ws0, hrd0⟩, R, Z, S, env, s, all_mono (fun y k v Z1 H1 e1 st1 s1 r1 => ?_) (all_bind.mp k)⟩
      refine ⟨R, Z1, S, y.2, s1, all_mono (fun z k w Z2 H2 e2 st2 s2 r2 => ?_) (all_bind.mp k)⟩
      split at k
      · rename_i kvs ks h1 h2
        obtain ⟨a', ws, hv', hrd, hp⟩ := s2.dictAt h1
        rw [hv] at hv'
        cases hv'
        obtain ⟨b, rfl, hb⟩ := rp_key (r1.mono e2) h2
        have st : (p && q) = true → Stay S H H2 := fun hp => by
          simp only [Bool.and_eq_true] at hp
          exact (st1 hp.1).trans (st2 hp.2)
        refine ⟨valV ws ks, .inr ⟨ws, ks, b, hrd, rfl, s2.g.z _ _ hb, rfl⟩, ?_⟩
        rcases hp.val ks with ⟨q1, q2⟩ | ⟨x, d', q1, q2, q3⟩
        · rw [q1]
          rw [q2] at k
          exact k w Z2 H2 (e1.trans e2) st s2 ⟨r2, (fun z => nomatch z), (fun z => nomatch z)⟩
        · rw [q1]
          rw [q2] at k
          exact k x Z2 H2 (e1.trans e2) st s2 ⟨q3, (fun z => nomatch z), (fun z => nomatch z)⟩
      · exact k.elim
theorem ve_din (neg : Bool) (hr : Room k X.A) {i : Nat} (he : VI X p e m) (ho : PE X o (tVar i)) (h1 : behindInMarks (if neg = true then CmpOp.NotIn else .In) o = false := by rfl) :
    VE X p (.Compare e [if neg = true then CmpOp.NotIn else .In] [o] pos) (mDin neg m i) := by
  cases neg with
  | false =>
    refine pe_weak (pe_cmp (pc_din (Room.u1 hr) he ho) h1) fun σ H Q ⟨R, Z, S, env, s, k⟩ => ?_
    refine ⟨R, Z, S, env, s, all_mono (fun y k v Z1 H1 e1 st1 s1 r1 => ?_) (all_bind.mp k)⟩
    split at k
    · rename_i kvs ks h1 h2
      obtain ⟨a, ws, hv, hrd, hp⟩ := s1.dictAt h1
      obtain ⟨b, rfl, hb⟩ := rp_key r1 h2
      refine ⟨_, hv, a, _, rfl, .inr ⟨ws, ks, b, hrd, rfl, s1.g.z _ _ hb, rfl⟩, ?_⟩
      have e3 : (valV ws ks).isSome = (valD kvs ks).isSome := by
        rcases hp.val ks with ⟨q1, q2⟩ | ⟨x, d', q1, q2, q3⟩ <;> rw [q1, q2] <;> rfl
      rw [e3]
      exact k _ Z1 H1 e1 st1 s1 ⟨.bl _, (fun z => nomatch z), (fun z => nomatch z)⟩
    · exact k.elim
  | true =>
    refine pe_weak (pe_cmp (pc_dnotin (Room.u1 hr) he ho) h1) fun σ H Q ⟨R, Z, S, env, s, k⟩ => ?_
    refine ⟨R, Z, S, env, s, all_mono (fun y k v Z1 H1 e1 st1 s1 r1 => ?_) (all_bind.mp k)⟩
    split at k
    · rename_i kvs ks h1 h2
      obtain ⟨a, ws, hv, hrd, hp⟩ := s1.dictAt h1
      obtain ⟨b, rfl, hb⟩ := rp_key r1 h2
      refine ⟨_, hv, a, _, rfl, .inr ⟨ws, ks, b, hrd, rfl, s1.g.z _ _ hb, rfl⟩, ?_⟩
      have e3 : (valV ws ks).isSome = (valD kvs ks).isSome := by
        rcases hp.val ks with ⟨q1, q2⟩ | ⟨x, d', q1, q2, q3⟩ <;> rw [q1, q2] <;> rfl
      rw [e3]
      exact k _ Z1 H1 e1 st1 s1 ⟨.bl _, (fun z => nomatch z), (fun z => nomatch z)⟩
    · exact k.elim
theorem vs_dput (hr : Room k X.A) {i : Nat} {value : Expr} (ho : PE X o (tVar i)) (he : VI X p e m) (hv : VI X q value n) (hs : swapsWith value (some (.Subscript o e pos')) pos.line X.env = pure false := by rfl) :
    VS X (.Assign [.Subscript o e pos'] value pos) (sDput i m n) :=
  ps_weak (ps_dput (Room.u1 hr) ho he hv hs) fun D σ H ⟨R, Z, S, env, s, k⟩ => by
    unfold sDput at k
    refine ⟨R, Z, S, env, s, all_mono (fun v k w Z1 H1 e1 st1 s1 r1 => ?_) (all_bind.mp k)⟩
    split at k
    · exact k.elim
    · rename_i kv0 h0
      obtain ⟨a, ws0, hv, _, _⟩ := s1.dictAt h0
      refine ⟨_, hv, R, Z1, S, v.2, s1, all_mono (fun y k w2 Z2 H2 e2 st2 s2 r2 => ?_) (all_bind.mp k)⟩
      split at k
      · rename_i kvs ks h1 h2
        obtain ⟨hl, k⟩ := ok_all k
        obtain ⟨u, g1, ⟨a', ws, rfl, ha, hp⟩, g3⟩ := s2.sl i _ h1
        rw [hv] at g1
        cases g1
        obtain ⟨b, rfl, hb⟩ := rp_key r2 h2
        refine ⟨a, _, rfl, DPut.t ha (s2.g.z _ _ hb) (line_lt (by rw [PK.len hp]; exact hl)), ?_⟩
        have hp2 : PK X.K Z2 (putK ws ks w) (putT kvs ks v.1) := PK.put (r1.mono e2) ks hp
        exact k σ Z2 _ (e1.trans e2) (s2.mut h1 rfl hv ⟨a, _, rfl, upd_same, hp2⟩)
      · exact k.elim
end

/-! ### dict(pairs), list(d), walks over keys, dicts handed to a callee -/
def pairD : PyData → Option (List Key × PyData)
  | .tuple [k, v] => match keyD k with
    | some ks => some (ks, v)
    | none => none
  | _ => none
def pairsD : List PyData → Option KD
  | [] => some []
  | d :: ds => match pairD d, pairsD ds with
    | some p, some ps => some (p :: ps)
    | _, _ => none
/-- what dict(..) takes: a list, or a tuple whose object is told -/
def mDictE (m : ME) : ME := fun env => (m env).bind fun x => match x.1 with
  | .lst ds => (match pairsD ds with
    | some kvs => .ret (.dT (mergeD [] kvs), x.2)
    | none => .bad)
  | .imm (.list ds) => (match pairsD ds with
    | some kvs => .ret (.dT (mergeD [] kvs), x.2)
    | none => .bad)
  | .ft ds => (match pairsD ds with
    | some kvs => .ret (.dT (mergeD [] kvs), x.2)
    | none => .bad)
  | _ => .bad
/-- a slot's value read where it stands, as it is -/
def mLook (i : Nat) : ME := fun env => match env[i]? with
  | some (some (.imm d)) => .ret (.imm d, env)
  | some (some (.ft d)) => .ret (.ft d, env)
  | _ => .bad
section
variable {X : Cx} {K : PySem.W.Frag} {R Z Z' : Hp} {S : Src} {H H' : Hp} {σ : L2.St} {env : Ev}
theorem pair_at (g : Good R Z S H) {v : V} {d : PyData} {kv : List Key × PyData} (r : Rp K Z v d) (h : pairD d = some kv) : ∃ w, PairAt K H v (kv.1, w) ∧ Rp K Z w kv.2 := by
  unfold pairD at h
  split at h
  · rename_i k x
    split at h
    · rename_i ks hk
      cases h
      obtain ⟨a, xs, rfl, hz, q⟩ := r.isT
      cases q with
      | cons r1 q =>
        cases q with
        | cons r2 q =>
          cases q
          obtain ⟨b, rfl, hb⟩ := rp_key r1 hk
          exact ⟨_, ⟨a, b, rfl, (hz.mono g.z).sq, g.z _ _ hb⟩, r2⟩
    · cases h
  · cases h
theorem pairs_at (g : Good R Z S H) : ∀ {ds : List PyData} {vs : List V} {kvs : KD}, RpAll K Z vs ds → pairsD ds = some kvs → ∃ ws, Paired (PairAt K H) vs ws ∧ PK K Z ws kvs
  | _, _, _, .nil, h => by cases h; exact ⟨[], .nil, .nil⟩
  | d :: ds, v :: vs, kvs, .cons r t, h => by
    unfold pairsD at h
    split at h
    · rename_i p ps h1 h2
      cases h
      obtain ⟨w, q1, q2⟩ := pair_at g r h1
      obtain ⟨ws, q3, q4⟩ := pairs_at g t h2
      exact ⟨(p.1, w) :: ws, .cons q1 q3, .cons ⟨rfl, q2⟩ q4⟩
    · cases h
variable {e : Expr} {p q : Bool} {m : ME} {pos ps : Pos} {k : Nat}
theorem ve_dictE (hr : Room k X.A) (hc : X.calm = true) (hg : Gl X "dict") (hm : X.mg "dict" = none) (ha : VE X p e m)
    (he : starEach [e] X.env = (false, eval e X.env) :: starEach [] X.env := by rfl) (hpl : (backTo pos (starEach [] X.env)).any (·.1) = false := by rfl) : VE X p (.Call (.Name "dict" ps) [e] [] pos) (mDictE m) :=
  pe_weak (pe_callTy (call_dictT hc (Room.u2 hr)) hg hm (by decide +kernel) (pa_cons ha pa_nil he) (by decide) (by decide) he hpl) fun σ H Q ⟨R, Z, S, env, s, k⟩ => by
    refine ⟨R, Z, S, env, s, all_mono (fun x k v Z1 H1 e1 st1 s1 r1 => ?_) (all_bind.mp k)⟩
    have fin : ∀ (a : Addr) (vs : List V) (ds : List PyData) (kvs : KD), v = .ref a → (SqL X.K H1 a vs ∨ ∃ o : Obj, H1 a = some (.frz o (.tup vs)) ∧ o.dict = none) → RpAll X.K Z1 vs ds → pairsD ds = some kvs → (Tr.ret (Sl.dT (mergeD [] kvs), x.2)).all (fun y => ∀ v Z' H', Same Z Z' → (p = true → Stay S H H') → SR X.K R Z' S H' σ y.2 → Res X.K R Z' S H' σ y.2 v y.1 → Q v H') →
        ∃ (a : Addr) (vs : List V) (kvs : List (List Key × V)), [v] = [.ref a] ∧ (SqL X.K H1 a vs ∨ ∃ o : Obj, H1 a = some (.frz o (.tup vs)) ∧ o.dict = none) ∧ Paired (PairAt X.K H1) vs kvs ∧ ∀ p, H1 p = none → Q (.ref p) (upd H1 p (.dT (mergeV [] kvs))) := by
      intro a vs ds kvs hv hq hrp hpd kk
      subst hv
      obtain ⟨ws, q3, q4⟩ := pairs_at s1.g hrp hpd
      refine ⟨a, vs, ws, rfl, hq, q3, fun pp hp => ?_⟩
      have t := Step.new (o := .dT (mergeV [] ws)) s1.g hp
      refine kk (.ref pp) Z1 _ e1 (fun hh => (st1 hh).trans t.st) (s1.step t) ⟨⟨pp, _, rfl, upd_same, PK.merge q4 .nil⟩, fun _ b hb => ?_, fun _ i u hi hu z => ?_⟩
      · cases hb; exact s1.g.out hp
      · obtain ⟨w, h1, h2, h3⟩ := s1.sl i u hi
        rw [h1] at z
        have e1 : w = .ref pp := Option.some.inj (Option.some.inj z)
        obtain ⟨b, ob, e2, hob, _⟩ := h2.at hu
        rw [e1] at e2
        cases e2
        rw [hp] at hob; cases hob
    cases hx : x.1 with
    | lst ds =>
      rw [hx] at k r1
      simp only at k
      split at k
      · rename_i kvs hk
        obtain ⟨a, vs, rfl, h1, h2⟩ := r1.r
        exact fin a vs ds kvs rfl (.inl (.of h1)) h2 hk k
      · exact k.elim
    | imm d =>
      rw [hx] at k r1
      cases d with
      | list ds =>
        simp only at k
        split at k
        · rename_i kvs hk
          obtain ⟨a, vs, rfl, h1, h2⟩ := Rp.isL r1.r
          exact fin a vs ds kvs rfl (.inl (.of (s1.g.z _ _ h1))) h2 hk k
        · exact k.elim
      | _ => exact k.elim
    | ft ds =>
      rw [hx] at k r1
      simp only at k
      split at k
      · rename_i kvs hk
        obtain ⟨a, vs, rfl, ⟨_, o, h1, hd⟩, h2⟩ := r1.r
        exact fin a vs ds kvs rfl (.inr ⟨o, s1.g.z _ _ h1, hd⟩) h2 hk k
      · exact k.elim
    | _ => rw [hx] at k; exact k.elim
theorem ve_look {i : Nat} (h : PE X e (tVar i)) : VE X true e (mLook i) := pe_weak h fun σ H Q ⟨R, Z, S, env, s, k⟩ => by
  unfold mLook at k
  split at k
  · rename_i t hd
    obtain ⟨v, h1, h2, h3⟩ := s.sl i _ hd
    exact ⟨v, h1, k v Z H (Same.refl Z) (fun _ => Stay.refl) s ⟨h2, (fun z => nomatch z), (fun z => nomatch z)⟩⟩
  · rename_i t hd
    obtain ⟨v, h1, h2, h3⟩ := s.sl i _ hd
    exact ⟨v, h1, k v Z H (Same.refl Z) (fun _ => Stay.refl) s ⟨h2, (fun z => nomatch z), (fun z => nomatch z)⟩⟩
  · exact k.elim
/-- list(d): not in this variant -/
def mListD (_i : Nat) : ME := fun _ => .bad
theorem ve_listD (hc : X.calm = true) {i : Nat} (ho : PE X e (tVar i)) (hg : Gl X "list") (hm : X.mg "list" = none)
    (he : starEach [e] X.env = (false, eval e X.env) :: starEach [] X.env := by rfl) (hpl : (backTo pos (starEach [] X.env)).any (·.1) = false := by rfl) : VE X true (.Call (.Name "list" ps) [e] [] pos) (mListD i) :=
  pe_weak (pe_callTy (call_list_dT hc) hg hm (by decide +kernel) (pa_cons ho pa_nil he) (by decide) (by decide) he hpl) fun σ H Q ⟨R, Z, S, env, s, k⟩ => by
    exact k.elim
/-- what is given, or its object told from now on -/
theorem pe_locked {t : TE} (h : PE X e t) : PE X e (fun σ H Q => t σ H fun v H1 => Q v H1 ∨ ∃ a u, v = .ref a ∧ H1 a = some u ∧ Mut (some u) ∧ ∀ od, Q v (upd H1 a (.frz od u))) :=
  ⟨fun pins s σ H Q I hq => thn (h.run pins s σ H _ I hq) fun v s1 ⟨x, H1, I1, r1, q⟩ => by
    rcases q with q | ⟨a, u, ex, ha, mu, q⟩
    · exact ⟨x, H1, I1, r1, q⟩
    · obtain ⟨od, I2⟩ := I1.lock ha mu
      exact ⟨x, _, I2, r1, q od⟩⟩
/-- an argument: a dict of one's own is lasting from then on -/
def gFrz (i : Nat) (r : MG) : MG := fun env => match env[i]? with
  | some (some (.dT kvs)) => (r (env.set i (some (.fT kvs)))).bind fun xs => .ret (.fT kvs :: xs.1, xs.2)
  | some (some (.fT kvs)) => (r env).bind fun xs => .ret (.fT kvs :: xs.1, xs.2)
  | _ => .bad
def gTmp (m : ME) (r : MG) : MG := fun env => (m env).bind fun x => match x.1 with
  | .dT kvs => (r x.2).bind fun xs => .ret (.fT kvs :: xs.1, xs.2)
  | .imm d => (r x.2).bind fun xs => .ret (.imm d :: xs.1, xs.2)
  | .ft d => (r x.2).bind fun xs => .ret (.ft d :: xs.1, xs.2)
  | _ => .bad
theorem SR.lockSlot {i : Nat} {kvs : KD} (s : SR K R Z S H σ env) (h : env[i]? = some (some (.dT kvs))) : ∃ a ws, σ[i]? = some (some (.ref a)) ∧ H a = some (.dT ws) ∧ ∀ od, Same Z (upd Z a (.frz od (.dT ws))) ∧ SR K R (upd Z a (.frz od (.dT ws))) S (upd H a (.frz od (.dT ws))) σ (env.set i (some (.fT kvs))) ∧ RSl K (upd Z a (.frz od (.dT ws))) S (upd H a (.frz od (.dT ws))) (.ref a) (.fT kvs) := by
  obtain ⟨v, h1, ⟨a, ws, rfl, ha, hp⟩, h3⟩ := s.sl i _ h
  refine ⟨a, ws, h1, ha, fun od => ?_⟩
  have out := h3 rfl a rfl
  have hl : i < env.length := (List.getElem?_eq_some_iff.mp h).1
  have sd := s.drop (i := i)
  obtain ⟨s2, e⟩ := sd.lock (o := .frz od (.dT ws)) out (by intro _ z; cases z) fun j u hj ho q => by
    by_cases hij : i = j
    · subst hij
      rw [List.getElem?_set_self hl] at hj; cases hj
    · rw [List.getElem?_set_ne hij] at hj
      exact s.ds i j _ u (.ref a) hij h hj rfl ho h1 q
  have r : RSl K (upd Z a (.frz od (.dT ws))) S (upd H a (.frz od (.dT ws))) (.ref a) (.fT kvs) := ⟨a, od, ws, rfl, upd_same, PK.mono e hp⟩
  have z4 := s2.setFree (i := i) (v := .ref a) (s := .fT kvs) rfl r
  have e1 : σ.set i (some (.ref a)) = σ := by
    obtain ⟨hl, e⟩ := List.getElem?_eq_some_iff.mp h1
    rw [← e]; exact List.set_getElem_self hl
  have e2 : (env.set i none).set i (some (.fT kvs)) = env.set i (some (.fT kvs)) := List.set_set ..
  rw [e1, e2] at z4
  exact ⟨e, z4, r⟩
variable {es : List Expr} {mg' : MG}
theorem vg_frz {i : Nat} (ha : PE X e (tVar i)) (hr : VG X q es mg') (hs : starEach (e :: es) X.env = (false, eval e X.env) :: starEach es X.env := by rfl) : VG X false (e :: es) (gFrz i mg') :=
  pa_weak (pa_cons (pe_locked ha) hr hs) fun σ H Q ⟨R, Z, S, env, s, k⟩ => by
    unfold gFrz at k
    split at k
    · rename_i kvs hd
      obtain ⟨a, ws, h1, h2, h3⟩ := s.lockSlot hd
      refine ⟨_, h1, .inr ⟨a, _, rfl, h2, trivial, fun od => ?_⟩⟩
      obtain ⟨e, s2, r⟩ := h3 od
      exact ⟨R, _, S, _, s2, all_mono (fun y' k' vs Z2 H2 e2 st2 s2 r2 => k' (_ :: vs) Z2 H2 (e.trans e2) (fun z => nomatch z) s2 ⟨⟨rfl, RSl.any (H := H2) (by rfl) (r.mono e2 (by intro _ _ z; cases z))⟩, r2⟩) (all_bind.mp k)⟩
    · rename_i kvs hd
      obtain ⟨v, h1, h2, h3⟩ := s.sl i _ hd
      exact ⟨v, h1, .inl ⟨R, Z, S, env, s, all_mono (fun y' k' vs Z2 H2 e2 st2 s2 r2 => k' (v :: vs) Z2 H2 e2 (fun z => nomatch z) s2 ⟨⟨rfl, h2.mono e2 fun _ _ z => nomatch z⟩, r2⟩) (all_bind.mp k)⟩⟩
    · exact k.elim
theorem vg_tmp (ha : VE X p e m) (hr : VG X q es mg') (hs : starEach (e :: es) X.env = (false, eval e X.env) :: starEach es X.env := by rfl) : VG X false (e :: es) (gTmp m mg') :=
  pa_weak (pa_cons (pe_locked ha) hr hs) fun σ H Q ⟨R, Z, S, env, s, k⟩ => by
    refine ⟨R, Z, S, env, s, all_mono (fun x k v Z1 H1 e1 st1 s1 r1 => ?_) (all_bind.mp k)⟩
    split at k
    · rename_i kvs hx
      rw [hx] at r1
      obtain ⟨a, ws, rfl, ha, hp⟩ := r1.r
      have out := r1.o rfl a rfl
      refine .inr ⟨a, _, rfl, ha, trivial, fun od => ?_⟩
      obtain ⟨s2, e⟩ := s1.lock (o := .frz od (.dT ws)) out (by intro _ z; cases z) (r1.f rfl)
      have r : RSl X.K (upd Z1 a (.frz od (.dT ws))) S (upd H1 a (.frz od (.dT ws))) (.ref a) (.fT kvs) := ⟨a, od, ws, rfl, upd_same, PK.mono e hp⟩
      exact ⟨R, _, S, _, s2, all_mono (fun y' k' vs Z2 H2 e2 st2 s2 r2 => k' (_ :: vs) Z2 H2 ((e1.trans e).trans e2) (fun z => nomatch z) s2 ⟨⟨rfl, RSl.any (H := H2) (by rfl) (r.mono e2 (by intro _ _ z; cases z))⟩, r2⟩) (all_bind.mp k)⟩
    · rename_i d hx
      rw [hx] at r1
      exact .inl ⟨R, Z1, S, _, s1, all_mono (fun y' k' vs Z2 H2 e2 st2 s2 r2 => k' (v :: vs) Z2 H2 (e1.trans e2) (fun z => nomatch z) s2 ⟨⟨rfl, RSl.any (H := H2) (by rfl) (r1.r.mono e2 (by intro _ _ z; cases z))⟩, r2⟩) (all_bind.mp k)⟩
    · rename_i d hx
      rw [hx] at r1
      exact .inl ⟨R, Z1, S, _, s1, all_mono (fun y' k' vs Z2 H2 e2 st2 s2 r2 => k' (v :: vs) Z2 H2 (e1.trans e2) (fun z => nomatch z) s2 ⟨⟨rfl, RSl.any (H := H2) (by rfl) (r1.r.mono e2 (by intro _ _ z; cases z))⟩, r2⟩) (all_bind.mp k)⟩
    · exact k.elim
def wDict (_i : Nat) : MW := fun _ => .bad
theorem vw_dict {tg : Expr} {i : Nat} (ho : PE X e (tVar i)) : VWk X tg e (wDict i) :=
  pi_weak (pi_keys (tg := tg) (pe_locked ho)) fun σ H Q ⟨R, Z, S, env, s, k⟩ => by
    exact k.elim
end
end PV

set_option Elab.async false
set_option linter.all false
set_option autoImplicit false
set_option maxRecDepth 100000
/-! PV15: the law's source: its cells, what is drawn. -/
namespace PV
open PySem PySem.Spec L2

abbrev srcK (c : Addr) (l m t : Int) : List (Key × V) := [(.inr "cells", .ref c), (.inr "left", .int l), (.inr "mixed", .int m), (.inr "turn", .int t)]
def SVat (H : Hp) (a c : Addr) (l m t : Int) (cs : List Int) : Prop := a ≠ c ∧ H a = some (.dK (srcK c l m t)) ∧ H c = some (.lst (cs.map V.int))
section
variable {K : PySem.W.Frag} {R Z Z' : Hp} {S : Src} {H H' : Hp} {σ : L2.St} {env : Ev}
/-- the source's own objects changed -/
theorem SR.src {a c : Addr} {H' : Hp} (s : SR K R Z (some (a, c)) H σ env) (hf : ∀ x, x ≠ a → x ≠ c → H' x = H x) (hv : SV (some (a, c)) H') : SR K R Z (some (a, c)) H' σ env where
  g := by
    have ra : ∀ x, inS (some (a, c)) x → R x = none ∧ Z x = none := s.g.rs
    refine ⟨fun x o h => ?_, fun x o h => ?_, hv, s.g.rz, s.g.rs, fun x xs h => ?_⟩
    · by_cases n : inS (some (a, c)) x
      · rw [(ra x n).1] at h; cases h
      · rw [hf x (fun z => n (.inl z)) (fun z => n (.inr z))]; exact s.g.r x o h
    · by_cases n : inS (some (a, c)) x
      · rw [(ra x n).2] at h; cases h
      · rw [hf x (fun z => n (.inl z)) (fun z => n (.inr z))]; exact s.g.z x o h
    · by_cases n : inS (some (a, c)) x
      · obtain ⟨_, l, m, t, cs, h1, h2⟩ := hv
        rcases n with n | n
        · subst n; rw [h1] at h; cases h
        · subst n; rw [h2] at h; cases h
      · rw [hf x (fun z => n (.inl z)) (fun z => n (.inr z))] at h; exact s.g.tz x xs h
  len := s.len
  sl := fun i t h => by
    obtain ⟨v, h1, h2, h3⟩ := s.sl i t h
    refine ⟨v, h1, h2.mono (Same.refl _) fun b hb ho o q => ?_, h3⟩
    have n := (h3 ho b hb).2.2
    rw [hf b (fun z => n (.inl z)) (fun z => n (.inr z))]
    exact q
  ds := s.ds
theorem SR.srcAt {i : Nat} (s : SR K R Z S H σ env) (h : env[i]? = some (some .src)) : ∃ a c l m t cs, S = some (a, c) ∧ σ[i]? = some (some (.ref a)) ∧ SVat H a c l m t cs := by
  obtain ⟨v, h1, ⟨a, c, rfl, rfl⟩, _⟩ := s.sl i _ h
  obtain ⟨n, l, m, t, cs, e1, e2⟩ := s.g.s
  exact ⟨a, c, l, m, t, cs, rfl, h1, n, e1, e2⟩
end
def mSrc (i : Nat) : ME := fun env => match env[i]? with
  | some (some .src) => .any fun j => .ret (.imm (.int j), env)
  | _ => .bad
def sSrc (i : Nat) (m : MI) : MS := fun env => (m env).bind fun v => (int? v.1).bind fun _ => match v.2[i]? with
  | some (some .src) => .ret (.nx, v.2)
  | _ => .bad
/-- what stands under the three numbers' names -/
def srcName (x : Str) : Prop := x = "left" ∨ x = "mixed" ∨ x = "turn"
theorem src_get {c : Addr} {l m t : Int} {x : Str} (h : srcName x) : ∃ j, valV (srcK c l m t) (.inr x) = some (.int j) := by
  rcases h with rfl | rfl | rfl
  · exact ⟨l, rfl⟩
  · exact ⟨m, rfl⟩
  · exact ⟨t, rfl⟩
theorem src_put {c : Addr} {l m t j : Int} {x : Str} (h : srcName x) : ∃ l' m' t', putK (srcK c l m t) (.inr x) (.int j) = srcK c l' m' t' := by
  rcases h with rfl | rfl | rfl
  · exact ⟨j, m, t, rfl⟩
  · exact ⟨l, j, t, rfl⟩
  · exact ⟨l, m, j, rfl⟩
section
variable {X : Cx} {o e f : Expr} {p q : Bool} {m n : MI} {pos pos' apos cpos p1 p2 p3 : Pos} {k kk : Nat} {x : Str}
theorem ve_src (hr : Room k X.A) {i : Nat} (hx : srcName x) (ho : PE X o (tVar i)) (hs : NoSl (.Constant (.str x) kk p1) := by intro _ _; rfl) : VI X true (.Subscript o (.Constant (.str x) kk p1) pos) (mI (mSrc i)) :=
  vi_of (pe_weak (pe_dget (Room.u1 hr) ho pe_str hs) fun σ H Q ⟨R, Z, S, env, s, k⟩ => by
    unfold mSrc at k
    split at k
    · rename_i h0
      obtain ⟨a, c, l, m, t, cs, rfl, hv, hn, h1, h2⟩ := s.srcAt h0
      obtain ⟨j, hj⟩ := src_get (c := c) (l := l) (m := m) (t := t) hx
      exact ⟨_, hv, a, _, rfl, .inl ⟨_, .inr x, .inl h1, rfl, hj.symm⟩, k j _ Z H (Same.refl Z) (fun _ => Stay.refl) s ⟨.int _, (fun z => nomatch z), (fun z => nomatch z)⟩⟩
    · exact k.elim)
theorem vs_srcput (hr : Room k X.A) {i : Nat} {value : Expr} (hx : srcName x) (ho : PE X o (tVar i)) (hv : VI X q value n) (hs : swapsWith value (some (.Subscript o (.Constant (.str x) kk p1) pos')) pos.line X.env = pure false := by rfl) :
    VS X (.Assign [.Subscript o (.Constant (.str x) kk p1) pos'] value pos) (sSrc i n) :=
  ps_weak (ps_dput (Room.u1 hr) ho pe_str hv hs) fun D σ H ⟨R, Z, S, env, s, k⟩ => by
    refine ⟨R, Z, S, env, s, all_mono (fun v k w Z1 H1 e1 st1 s1 r1 => ?_) (all_bind.mp k)⟩
    obtain ⟨j, hj, k⟩ := int?_all (all_bind.mp k)
    rw [hj] at r1
    cases r1
    split at k
    · rename_i h0
      obtain ⟨a, c, l, m, t, cs, rfl, hv, hn, h1, h2⟩ := s1.srcAt h0
      obtain ⟨l', m', t', hp⟩ := src_put (c := c) (l := l) (m := m) (t := t) (j := j) hx
      refine ⟨_, hv, a, _, rfl, DPut.k (k := .inr x) h1 (by show 4 < sizeLine; decide), ?_⟩
      rw [hp]
      refine k σ Z1 _ e1 (s1.src (fun y n1 n2 => upd_ne n1) ⟨hn, l', m', t', cs, upd_same, ?_⟩)
      rw [upd_ne (Ne.symm hn)]
      exact h2
    · exact k.elim
def sSrcWh (i j : Nat) : MS := fun env => match env[i]?, env[j]? with
  | some (some .src), some (some (.imm (.int _))) => .ret (.nx, env)
  | _, _ => .bad
theorem tyV_list {K : PySem.W.Frag} {H : Hp} {a : Addr} {vs : List V} (h : H a = some (.lst vs)) : tyV K "list" (.ref a) H := .inl ⟨rfl, vs, SqL.of h⟩
theorem ints_dropLast (cs : List Int) : (cs.map V.int).dropLast = cs.dropLast.map V.int := by
  rw [List.dropLast_eq_take, List.dropLast_eq_take, List.length_map, List.map_take]
theorem vs_srcwhile (hr : Room k X.A) {i j : Nat} {o1 o2 o3 o4 om : Expr} {k1 k2 k3 k4 k5 k6 k7 : Nat} {q1 q2 q3 q4 q5 q6 q7 q8 q9 q10 q11 q12 q13 q14 q15 q16 q17 q18 q19 q20 : Pos} (hp : PassesOwn (model X.prog X.w) X.A X.env X.xe)
    (hg : Gl X "len") (hml : X.mg "len" = none) (hm : PE X om (tVar j)) (h1 : PE X o1 (tVar i)) (h2 : PE X o2 (tVar i)) (h3 : PE X o3 (tVar i)) (h4 : PE X o4 (tVar i))
    (s1 : NoSl (.Constant (.str "left") k2 q3) := by intro _ _; rfl) (s2 : NoSl (.Constant (.str "cells") k4 q8) := by intro _ _; rfl) (s4 : NoSl (.Constant (.str "cells") k7 q16) := by intro _ _; rfl)
    (hbase : attributeBase (.Subscript o4 (.Constant (.str "cells") k7 q16) q17) "pop" X.env (eval (.Subscript o4 (.Constant (.str "cells") k7 q16) q17) X.env) = eval (.Subscript o4 (.Constant (.str "cells") k7 q16) q17) X.env := by rfl) (hline : (q18.endLine == q19.line) = true := by rfl)
    (hst : starEach [.Subscript o2 (.Constant (.str "cells") k4 q8) q9] X.env = (false, eval (.Subscript o2 (.Constant (.str "cells") k4 q8) q9) X.env) :: starEach [] X.env := by rfl)
    (hs : swapsWith (.Call (.Attribute (.Subscript o4 (.Constant (.str "cells") k7 q16) q17) "pop" q18) [] [] q19) (some (.Subscript o3 (.Constant (.str "left") k6 q14) q15)) q20.line X.env = pure false := by rfl) :
    VS X (.While (.BoolOp .And [.Compare om [.Gt] [.Constant (.int 1) k1 q1] q2, .Compare (.Subscript o1 (.Constant (.str "left") k2 q3) q4) [.Lt] [.Constant (.int 2) k3 q5] q6,
      .Compare (.Call (.Name "len" q7) [.Subscript o2 (.Constant (.str "cells") k4 q8) q9] [] q10) [.Gt] [.Constant (.int 0) k5 q11] q12] q13)
      [.Assign [.Subscript o3 (.Constant (.str "left") k6 q14) q15] (.Call (.Attribute (.Subscript o4 (.Constant (.str "cells") k7 q16) q17) "pop" q18) [] [] q19) q20] [] pos) (sSrcWh i j) := by
  have c1 := pt_cmpR (pos := q2) op_gt hm (pe_int (i := 1) (j := k1) (pos := q1)) (nomark _)
  have c2 := pt_cmpR (pos := q6) op_lt (pe_dget (pos := q4) (Room.u1 hr) h1 (pe_str (j := k2) (pos := q3)) s1) (pe_int (i := 2) (j := k3) (pos := q5)) (nomark _)
  have c3 := pt_cmpR (pos := q12) op_gt (pe_callB (p := q7) (pos := q10) call_len_seq hg hml (by decide +kernel) (pa_cons (pe_dget (pos := q9) (Room.u1 hr) h2 (pe_str (j := k4) (pos := q8)) s2) pa_nil hst) (by decide) (by decide) hst) (pe_int (i := 0) (j := k5) (pos := q11)) (nomark _)
  have cc := (pw_and (pos := q13) c1 (pw_and c2 (pw_and1 c3))).pt
  have bb := pss_one (ps_dput (pos := q20) (pos' := q15) (Room.u1 hr) h3 (pe_str (x := "left") (j := k6) (pos := q14)) (pe_bm0 PySem.F.plainAttrs_list PySem.F.slot_list_pop PySem.F.type_list_pop mt_pop (pe_dget (pos := q17) (Room.u1 hr) h4 (pe_str (j := k7) (pos := q16)) s4) hbase hline) hs)
  refine ps_weak (ps_while hp cc bb) fun D σ H ⟨R, Z, S, env, s, kk⟩ => ?_
  unfold sSrcWh at kk
  split at kk
  · rename_i mm h0 hj
    obtain ⟨a, c, l, m, t, cs, rfl, hv, hn, e1, e2⟩ := s.srcAt h0
    obtain ⟨vm, hvm, hvm2, _⟩ := s.sl j _ hj
    cases hvm2
    refine ⟨fun n σ' H' => σ' = σ ∧ SR X.K R Z (some (a, c)) H' σ env ∧ ∃ l m t cs, SVat H' a c l m t cs ∧ cs.length = n, ⟨cs.length, rfl, s, l, m, t, cs, ⟨hn, e1, e2⟩, rfl⟩, ?_⟩
    rintro n σ' H' ⟨rfl, s', l, m, t, cs, ⟨_, e1, e2⟩, rfl⟩
    have done : D.nx σ' H' := kk σ' Z H' (Same.refl Z) s'
    refine ⟨_, hvm, mm, 1, rfl, rfl, _, rfl, ?_⟩
    dsimp only
    split
    · refine ⟨_, hv, a, .int l, rfl, .inl ⟨_, .inr "left", .inl e1, rfl, rfl⟩, l, 2, rfl, rfl, _, rfl, ?_⟩
      dsimp only
      split
      · refine ⟨_, hv, a, .ref c, rfl, .inl ⟨_, .inr "cells", .inl e1, rfl, rfl⟩, c, _, rfl, .inl (.of e2), _, 0, rfl, rfl, _, rfl, ?_⟩
        dsimp only
        split
        · rename_i hlen
          rw [List.length_map] at hlen
          have hl : 0 < cs.length := by
            have := of_decide_eq_true hlen
            omega
          refine ⟨fun σ2 H2 => σ2 = σ' ∧ SR X.K R Z (some (a, c)) H2 σ' env ∧ ∃ l m t cs', SVat H2 a c l m t cs' ∧ cs'.length < cs.length, fun σ2 H2 ⟨h1, h2, l, m, t, cs', h3, h4⟩ => ⟨cs'.length, h4, h1, h2, l, m, t, cs', h3, rfl⟩, ?_⟩
          refine ⟨_, hv, a, .ref c, rfl, .inl ⟨_, .inr "cells", .inl e1, rfl, rfl⟩, tyV_list e2, c, cs.map V.int, .int (cs[cs.length - 1]'(by omega)), rfl, rfl, e2, by rw [List.length_map, List.getElem?_map, List.getElem?_eq_getElem (by omega)]; rfl, ?_⟩
          have e1' : upd H' c (.lst (cs.map V.int).dropLast) a = some (.dK (srcK c l m t)) := by rw [upd_ne hn]; exact e1
          refine ⟨_, hv, a, _, rfl, DPut.k (k := .inr "left") e1' (by show 4 < sizeLine; decide), rfl, ?_⟩
          have sv : SVat (upd (upd H' c (.lst (cs.map V.int).dropLast)) a (.dK (putK (srcK c l m t) (.inr "left") (.int (cs[cs.length - 1]'(by omega)))))) a c (cs[cs.length - 1]'(by omega)) m t cs.dropLast :=
            ⟨hn, upd_same, by rw [upd_ne (Ne.symm hn), upd_same, ints_dropLast]⟩
          refine ⟨s'.src (fun x n1 n2 => by rw [upd_ne n1, upd_ne n2]) ⟨hn, _, _, _, _, sv.2.1, sv.2.2⟩, _, _, _, _, sv, ?_⟩
          rw [List.length_dropLast]
          omega
        · exact done
      · exact done
    · exact done
  · exact kk.elim
end
/-! ### the draw -/
/-- what _law_pick is worth -/
def w_pick : FS := fun ss => match ss with
  | [.src, .imm (.int n)] => ok (-1000000000 ≤ n ∧ n ≤ 1000000000) (.pick (if n > 1 then n else 1) fun i => .ret (.imm (.int i)))
  | _ => .bad
section
variable {P : Program} {w : World} {K : PySem.W.Frag} {mg : Str → Option Value} {base : Heap}
theorem FnG.weak {k : Nat} {f : Addr} {fd : FuncData} {ps : List Str} {sp sp' : Sp} (F : FnG P w K mg base k f fd ps sp) (h : ∀ vs H Q E, sp' vs H Q E → sp vs H Q E) : FnG P w K mg base k f fd ps sp' :=
  ⟨fun vs H Q E q => F.len vs H Q E (h vs H Q E q), fun A outer s H args us vs Q E hr hG e0 hb hv q => F.go A outer s H args us vs Q E hr hG e0 hb hv (h vs H Q E q)⟩
theorem Cal.weak {x : Str} {k : Nat} {ps : List Str} {fs fs' : FS} (C : Cal P w K mg base x k ps fs) (h : ∀ ss Q, (fs' ss).all Q → (fs ss).all Q) : Cal P w K mg base x k ps fs' := by
  obtain ⟨f, fd, F, r⟩ := C
  exact ⟨f, fd, F.weak fun vs H Q E ⟨R, Z, S, ss, h1, h2, h3, h4⟩ => ⟨R, Z, S, ss, h1, h2, h3, h ss _ h4⟩, r⟩
end
end PV

set_option Elab.async false
set_option linter.all false
set_option autoImplicit false
set_option maxRecDepth 100000
/-! PVr: t[::-1] of a tuple. -/
namespace PV
open PySem PySem.Spec L2 PyProof.Rows
section
variable {prog : Program} {w : World} {A : Around} {E : Value → Shared → Prop} {s : Shared}
theorem rev_adjust (n : Nat) : Builtin.Slice.sliceAdjust none none (-1) (n : Int) = ((n : Int) - 1, -1) := rfl
theorem rev_places (n : Nat) : Builtin.Slice.slicePlaces ((n : Int) - 1) (-1) (-1) = n := by
  unfold Builtin.Slice.slicePlaces
  rw [if_neg (by decide)]
  split
  · have e : ((n : Int) - 1 - -1 - 1) / (- -1) = n - 1 := by
      rw [Int.neg_neg, Int.ediv_one]; omega
    rw [e]; omega
  · omega
theorem fm_some {α β : Type} (f : α → Option β) (g : α → β) : ∀ l : List α, (∀ k ∈ l, f k = some (g k)) → l.filterMap f = l.map g
  | [], _ => rfl
  | x :: l, h => by
    rw [List.filterMap_cons_some (h x (by simp)), List.map_cons, fm_some f g l fun k hk => h k (by simp [hk])]
theorem rev_pick (xs : Array Value) : ((List.range xs.size).filterMap fun (k : Nat) => xs[(((xs.size : Int) - 1) + (k : Int) * (-1)).toNat]?).toArray = xs.toList.reverse.toArray := by
  congr 1
  apply List.ext_getElem?
  intro i
  have hm : (List.range xs.size).filterMap (fun (k : Nat) => xs[(((xs.size : Int) - 1) + (k : Int) * (-1)).toNat]?) = (List.range xs.size).map fun k => xs.toList.reverse.getD k default := by
    refine fm_some _ _ _ fun k hk => ?_
    have hk := List.mem_range.mp hk
    have e : (((xs.size : Int) - 1) + (k : Int) * (-1)).toNat = xs.size - 1 - k := by omega
    rw [e]
    have h1 : xs.size - 1 - k < xs.size := by omega
    rw [Array.getElem?_eq_getElem h1]
    have h2 : k < xs.toList.reverse.length := by rw [List.length_reverse, Array.length_toList]; exact hk
    show _ = some _
    rw [List.getD_eq_getElem?_getD, List.getElem?_eq_getElem h2, List.getElem_reverse]
    simp
  rw [hm, List.getElem?_map]
  by_cases hi : i < xs.size
  · rw [List.getElem?_range hi]
    have h2 : i < xs.toList.reverse.length := by rw [List.length_reverse, Array.length_toList]; exact hi
    rw [Option.map_some, List.getD_eq_getElem?_getD, List.getElem?_eq_getElem h2]
    rfl
  · rw [List.getElem?_eq_none (by rw [List.length_range]; omega), List.getElem?_eq_none (by rw [List.length_reverse, Array.length_toList]; omega)]
    rfl
theorem rev_applied {sl : Addr} {vs : Value} {n : Nat} {Q : Int × Int × Nat → Shared → Prop} (hs : s.heap.IsSliceOf sl .none .none vs) (ps : IsPart vs (some (-1)))
    (h : Q ((n : Int) - 1, -1, n) s) : wpAny (model prog w) A (Builtin.Slice.sliceApplied (.ref sl) (pure (n : Int))) Q E s := by
  obtain ⟨os, hos, hcs, hds⟩ := id hs
  unfold Builtin.Slice.sliceApplied
  unfold Builtin.Slice.sliceFields
  refine wpAny_bind (wpAny_bind (wpAny_field hos hds (x := .none) rfl (wpAny_bind (wpAny_field hos hds (x := .none) rfl (wpAny_bind (wpAny_field hos hds (x := vs) rfl (wpAny_pure ?_)))))))
  refine wpAny_bind (HT.slicePart_ ps ?_)
  show wpAny _ _ (if ((-1 : Int) == 0) = true then _ else _) _ _ s
  rw [if_neg (by decide)]
  refine wpAny_bind (slicePart_none (wpAny_bind (slicePart_none (wpAny_bind (wpAny_pure ?_)))))
  show wpAny _ _ (pure ((n : Int) - 1, (-1 : Int), Builtin.Slice.slicePlaces ((n : Int) - 1) (-1) (-1))) _ _ s
  rw [rev_places]
  exact wpAny_pure h
theorem rev_getItem {t sl : Addr} {items : Array Value} {vs : Value} {Q : Value → Shared → Prop} (hT : IsTup s.heap t items) (hs : s.heap.IsSliceOf sl .none .none vs) (ps : IsPart vs (some (-1)))
    (h : Q (.ref s.heap.objs.size) { s with heap := s.heap.push { cls := .type "tuple", data := .seq items.toList.reverse.toArray } })
    (hsz : items.size ≤ sizeLine) : wpAny (model prog w) A (getItem (.ref t) (.ref sl)) Q E s := by
  have hz : sizeOk (.seq items.toList.reverse.toArray) := by
    show items.toList.reverse.toArray.size ≤ sizeLine
    rw [List.size_toArray, List.length_reverse, Array.length_toList]
    exact hsz
  obtain ⟨os, hos, hcs, hds⟩ := id hs
  have hK : s.TypeIs (.ref sl) "slice" := ⟨os, hos, hcs⟩
  unfold getItem
  try with_reducible refine wpAny_holding ?_
  first | refine wpAny_bind (wpAny_pure ?_) | skip
  refine wpAny_bind (wpAny_sequenceKey hT.typeIs (by decide) ?_)
  refine wpAny_bind (wpAny_callSpecial?_slot (name := Str.ofString "__getitem__") hT.typeIs slot_tuple_getitem (wpAny_call_entry slot_tuple_getitem hT.typeIs entry_tuple_getitem ?_ (args_tuple_getitem _ _)))
  show wpAny _ _ (Builtin.Tuple.tupleItemsOf (.ref t) >>= fun _ => _) _ _ s
  refine wpAny_bind (tupleItemsOf_ hT ?_)
  refine wpAny_bind (wpAny_typeOf hK ?_)
  rw [if_pos (by decide)]
  refine wpAny_bind (rev_applied hs ps ?_)
  have no : ¬ ((((items.size : Int) - 1) == 0 && (-1 : Int) == 1 && items.size == items.size) = true) := by simp
  show wpAny _ _ (if (((items.size : Int) - 1) == 0 && (-1 : Int) == 1 && items.size == items.size) = true then _ else _) _ _ s
  rw [if_neg no, rev_pick]
  first
    | exact wpAny_bind (m := Builtin.Tuple.tupleExact _) (wpAny_newObj_type (wpAny_pure ⟨_, rfl, wpAny_pure h⟩) hz)
    | exact wpAny_bind (m := Builtin.Tuple.tupleExact _) (wpAny_newObj_type (wpAny_bind (wpAny_pure (wpAny_pure ⟨_, rfl, wpAny_pure h⟩))) hz)
    | exact wpAny_bind (wpAny_bind (m := Builtin.Tuple.tupleExact _) (wpAny_newObj_type (wpAny_pure (wpAny_pure ⟨_, rfl, wpAny_pure h⟩)) hz))
    | exact wpAny_bind (wpAny_bind (m := Builtin.Tuple.tupleExact _) (wpAny_newObj_type (wpAny_pure ⟨_, rfl, wpAny_pure h⟩) hz))
end
/-- x[::-1], x a list or a tuple -/
def tRevB (K : PySem.W.Frag) (te : TE) : TE := fun σ H Q => te σ H fun x H1 => (∃ a xs, x = .ref a ∧ SqL K H1 a xs ∧ ∀ p, H1 p = none → Q (.ref p) (upd H1 p (.lst xs.reverse))) ∨
  ∃ a xs, x = .ref a ∧ SqT K H1 a xs ∧ TupNew H1 Q xs.reverse
section
variable {X : Cx}
theorem pe_revB {e : Expr} {te : TE} {k : Nat} {p1 p2 p3 pos : Pos} (he : PE X e te) : PE X (.Subscript e (.Slice none none (some (.UnaryOp .USub (.Constant (.int 1) k p1) p2)) p3) pos) (tRevB X.K te) := by
  refine ⟨fun pins s σ H Q I h => ?_⟩
  refine Subscript_ (thn (he.run pins s σ H _ I h) fun v s1 ⟨x, H1, I1, r1, q0⟩ => ?_)
  have hst : PO X (some (.UnaryOp .USub (.Constant (.int 1) k p1) p2)) (tPart (tUn (rU fun i => .int (-i)) (tC (.int 1)))) := po_some (pe_un un_neg pe_int)
  refine wpAny_Slice (thn (po_none.run pins s1 σ H1 (fun o H2 => o = none ∧ H2 = H1) I1 ⟨rfl, rfl⟩) fun vl s2 ⟨l, H2, I2, pl, el, e2⟩ => ?_)
  subst el; subst e2
  refine thn (po_none.run pins s2 σ H2 (fun o H3 => o = none ∧ H3 = H2) I2 ⟨rfl, rfl⟩) fun vu s3 ⟨u, H3, I3, pu, eu, e3⟩ => ?_
  subst eu; subst e3
  refine thn (hst.run pins s3 σ H3 (fun o H4 => o = some (-1) ∧ H4 = H3) I3 ⟨1, rfl, -1, rfl, rfl, rfl⟩) fun vs s4 ⟨o, H4, I4, ps, eo, e4⟩ => ?_
  subst eo; subst e4
  have I5 : Inv X pins σ H4 { s4 with heap := s4.heap.push { cls := .type "slice", data := .fields #[vl, vu, vs] } } := I4.kept (t' := s4.toks) fun b ob q => Heap.get?_push_of_some _ q
  show wpAny (model X.prog X.w) X.A (subscriptTail e (.Slice none none (some (.UnaryOp .USub (.Constant (.int 1) k p1) p2)) p3) v (.ref s4.heap.objs.size)) (EP X pins σ Q) X.xe { s4 with heap := s4.heap.push { cls := .type "slice", data := .fields #[vl, vu, vs] } }
  rcases q0 with ⟨a, xs, ex, hx, q⟩ | ⟨a, xs, ex, hx, q⟩
  · subst ex
    cases r1
    obtain ⟨its, r, ht, hz⟩ := I5.list hx
    refine tail_any (ops := [.ref a, .ref s4.heap.objs.size]) ht.isList.typeIs (PySem.slot_list_getitem.lookup) ?_ (by with_unfolding_all rfl)
    refine wpAny_getItem_list_slice ht.isList (Heap.IsSliceOf.new _ vl vu vs) pl pu ps (by decide) ?_ (by have := r.length; rw [List.size_toArray]; omega)
    rw [PySem.W.krv_pick]
    exact ⟨.ref _, _, I5.laid (t' := s4.toks) (o := .lst xs.reverse) (fun b ob q => Heap.get?_push_of_some _ q) (Nat.le_refl _) ⟨by rw [List.length_reverse]; exact hz, _, 0, r.reverse, Heap.get?_push_size _ rfl⟩, rfl, q _ (I5.hok.fresh (Nat.le_refl _))⟩
  · subst ex
    cases r1
    obtain ⟨its, r, ht, hz⟩ := I5.tuple hx
    cases pl
    cases pu
    refine tail_any (ops := [.ref a, .ref s4.heap.objs.size]) ht.typeIs (PyProof.Rows.slot_tuple_getitem.lookup) ?_ (by with_unfolding_all rfl)
    refine rev_getItem ht (Heap.IsSliceOf.new _ _ _ vs) ps ?_ (by have := r.length; rw [List.size_toArray]; omega)
    exact ⟨.ref _, _, I5.laid (t' := s4.toks) (o := .frz { cls := .type "tuple", data := .seq its.reverse.toArray } (.tup xs.reverse)) (fun b ob q => Heap.get?_push_of_some _ q) (Nat.le_refl _) ⟨Heap.get?_push_size _ rfl, by rw [List.length_reverse]; exact hz, _, r.reverse, IsTup.new _ _⟩, rfl, q _ _ (I5.hok.fresh (Nat.le_refl _)) rfl⟩
end
end PV

set_option Elab.async false
set_option linter.all false
set_option autoImplicit false
set_option maxRecDepth 100000
/-! PV16: reversed lists; the law's source and its draws. -/
namespace PV
open PySem PySem.Spec L2

def revD : PyData → Tr Sl
  | .list ds => .ret (.lst ds.reverse)
  | .tuple ds => rI (.tuple ds.reverse)
  | _ => .bad
section
variable {X : Cx} {e : Expr} {p : Bool} {m : MI} {k : Nat} {p1 p2 p3 pos : Pos}
theorem ve_rev (he : VB X p e m) : VE X p (.Subscript e (.Slice none none (some (.UnaryOp .USub (.Constant (.int 1) k p1) p2)) p3) pos) (m1 revD m) :=
  pe_weak (pe_revB he) fun σ H Q h => by
    obtain ⟨R, Z, S, env, s, k⟩ := rd_one h
    refine ⟨R, Z, S, env, s, all_mono (fun y k v Z1 H1 e1 st1 s1 b => ?_) k⟩
    obtain ⟨R, Z, S, d, g, b, h⟩ := k v Z1 H1 e1 st1 s1 b
    cases d with
    | list ds =>
      obtain ⟨a, vs, rfl, ha, ra⟩ := b.list g
      exact .inl ⟨a, vs, rfl, .of ha, PR.newLst h g ra.reverse⟩
    | tuple ds =>
      obtain ⟨a, vs, rfl, ha, ra⟩ := b.tuple g
      exact .inr ⟨a, vs, rfl, ha, PR.newTup h g ra.reverse⟩
    | _ => exact h.elim
end

/-! ### the script -/
def wScr (i : Nat) : MW := fun env => match env[i]? with
  | some (some (.scr ns)) => .ret (ns.map .int, env)
  | _ => .bad
theorem wv_scr {K : PySem.W.Frag} {Z : Hp} {S : Src} {a : Addr} {ns : List Int} (h : SqL K Z a (ns.map V.int)) : WV K (Itl K a) S Z (ns.map .int) := by
  refine ⟨fun H => SqL K H a (ns.map V.int), YAt (ns.map V.int), ?_, fun R Z' H e g => Same.sql g.z (Same.sql e h), fun i R Z' H x H' hi e g y => ?_⟩
  · have e : (ns.map PyData.int).length = (ns.map V.int).length := by simp
    rw [e]; exact walk_list
  · obtain ⟨rfl, hx⟩ := y
    obtain ⟨d, hd, rd⟩ := (RpAll.ints (K := K) (Z := Z') ns).get hx
    exact ⟨d, Z', hd, Step.refl g, rd⟩
theorem vw_scr {X : Cx} {tg e : Expr} {i : Nat} (h : PE X e (tVar i)) : VWk X tg e (wScr i) := ⟨fun pins s σ H Q I hw => (pi_seq (tg := tg) h).run pins s σ H Q I (by
  obtain ⟨R, Z, S, env, s, k⟩ := hw
  unfold wScr at k
  split at k
  · rename_i ns hd
    obtain ⟨v, h1, ⟨a, rfl, h2⟩, _⟩ := s.sl i _ hd
    exact ⟨_, h1, a, rfl, .inl ⟨_, Same.sql s.g.z h2, k _ Z H (Same.refl Z) s (wv_scr h2)⟩⟩
  · exact k.elim)⟩

/-! ### what the source is made of -/
/-- a list of its own, of ints -/
def intsOf : List PyData → Option (List Int)
  | [] => some []
  | .int i :: ds => (intsOf ds).map (i :: ·)
  | _ => none
theorem intsOf_eq : ∀ {ds : List PyData} {cs : List Int}, intsOf ds = some cs → ds = cs.map .int
  | [], cs, h => by cases h; rfl
  | .int i :: ds, cs, h => by
    unfold intsOf at h
    cases q : intsOf ds with
    | none => rw [q] at h; cases h
    | some x => rw [q] at h; cases h; rw [intsOf_eq q]; rfl
  | .none :: _, _, h => by cases h
  | .bool _ :: _, _, h => by cases h
  | .str _ :: _, _, h => by cases h
  | .list _ :: _, _, h => by cases h
  | .tuple _ :: _, _, h => by cases h
  | .dict _ :: _, _, h => by cases h
/-- the reading of: return {'cells': e, 'left': 1, 'mixed': mixed, 'turn': 0} -/
def RSsrc (K : PySem.W.Frag) (m : ME) (j : Nat) : TS := fun D σ H => ∃ R Z env, SR K R Z none H σ env ∧ (m env).all fun y => ∃ ds cs i, y.1 = .lst ds ∧ intsOf ds = some cs ∧ y.2[j]? = some (some (.imm (.int i))) ∧
  ∀ v Z' H' a c, Same Z Z' → Good R Z' (some (a, c)) H' → v = .ref a → D.rt v H'
section
variable {X : Cx} {e e3 : Expr} {p : Bool} {m : ME} {k1 k2 k3 k4 k5 k6 : Nat} {q1 q2 q3 q4 q5 q6 pos pos2 : Pos}
theorem ps_srcret {j : Nat} (he : VE X p e m) (h3 : PE X e3 (tVar j)) :
    PS X (.Return (some (.Dict [some (.Constant (.str "cells") k1 q1), some (.Constant (.str "left") k2 q2), some (.Constant (.str "mixed") k3 q3), some (.Constant (.str "turn") k4 q4)] [e, .Constant (.int 1) k5 q5, e3, .Constant (.int 0) k6 q6] pos)) pos2) (RSsrc X.K m j) :=
  ps_weak (ps_ret (pe_disp (pos := pos) (pps_cons pe_str he (pps_cons pe_str pe_int (pps_cons pe_str h3 (pps_cons pe_str pe_int pps_nil)))) rfl rfl (by simp) (by simp))) fun D σ H ⟨R, Z, env, s, k⟩ => by
    intro a ha
    have outA := s.g.out ha
    have s1 := s.reserve (o := .dK []) ha
    refine ⟨_, Z, none, env, s1, all_mono (fun y k v Z1 H1 e1 st1 s2 r2 => ?_) k⟩
    obtain ⟨ds, cs, i, hy, hcs, hj, fin⟩ := k
    rw [hy] at r2
    obtain ⟨c, vs, rfl, hc, hr⟩ := r2.r
    rw [intsOf_eq hcs] at hr
    have hvs := RpAll.of_ints cs hr
    subst hvs
    obtain ⟨vm, hvm, hvm2, _⟩ := s2.sl j _ hj
    cases hvm2
    have outC := r2.o rfl c rfl
    have hcn : c ≠ a := fun z => by
      have := outC.1
      rw [z, upd_same] at this
      cases this
    have rC : R c = none := by
      have := outC.1
      rw [upd_ne hcn] at this
      exact this
    have hA : H1 a = some (.dK []) := s2.g.r a _ upd_same
    have zA : Z1 a = none := s2.g.rz a _ upd_same
    refine ⟨_, hvm, ⟨hA, [(.inr "cells", .ref c), (.inr "left", .int 1), (.inr "mixed", .int i), (.inr "turn", .int 0)], rfl, by simp, ?_⟩⟩
    have em : mergeK [] [(.inr "cells", .ref c), (.inr "left", .int 1), (.inr "mixed", .int i), (.inr "turn", .int 0)] = srcK c 1 i 0 := rfl
    rw [em]
    refine fin (.ref a) Z1 _ a c e1 ⟨fun x o h => ?_, fun x o h => ?_, ?_, fun x o h => ?_, fun x n => ?_, fun x xs h => ?_⟩ rfl
    · have hx : x ≠ a := fun z => by subst z; rw [outA.1] at h; cases h
      rw [upd_ne hx]
      exact s2.g.r x o (by rw [upd_ne hx]; exact h)
    · have hx : x ≠ a := fun z => by subst z; rw [zA] at h; cases h
      rw [upd_ne hx]
      exact s2.g.z x o h
    · exact ⟨Ne.symm hcn, 1, i, 0, cs, upd_same, by rw [upd_ne hcn]; exact hc⟩
    · have hx : x ≠ a := fun z => by subst z; rw [outA.1] at h; cases h
      exact s2.g.rz x o (by rw [upd_ne hx]; exact h)
    · rcases n with rfl | rfl
      · exact ⟨outA.1, zA⟩
      · exact ⟨rC, outC.2.1⟩
    · have hx : x ≠ a := fun z => by subst z; rw [upd_same] at h; cases h
      rw [upd_ne hx] at h
      exact s2.g.tz x xs h
end
/-- what _law_source keeps -/
def spSrc (K : PySem.W.Frag) : Sp := fun vs H Q _ => ∃ R Z cs v, vs = [v] ∧ cs.length ≤ 1000 ∧ Good R Z none H ∧ RSl K Z none H v (.scr cs) ∧ ∀ v Z' H' b c, Same Z Z' → Good R Z' (some (b, c)) H' → v = .ref b → Q v H'
def src1 : MS := sSet 1 (mE (mC (.int 11)))
def src2 : MS := sFor (wScr 0) (tgName 2) (sSet 1 (m2 modD (mI (m1 intD (mI (m2 addD (mI (m2 addD (mI (m2 mulD (mPeek 1) (mC (.int 69069)))) (mI (m2 mulD (mPeek 2) (mC (.int 31)))))) (mC (.int 5)))))) (mC (.int 2147483629))))
def src3 : ME := m1 revD (mI (mLc (wScr 0) true [2] tYes' (mI (m1 absD (mPeek 2)))))
theorem small_31 : smallI 31 := by unfold smallI; constructor <;> decide
theorem small_69 : smallI 69069 := by unfold smallI; constructor <;> decide
theorem src2_run (d : Sl) : ∀ (cs : List Int) (i : Int) (c : Option Sl), (forD (tgName 2) (sSet 1 (m2 modD (mI (m1 intD (mI (m2 addD (mI (m2 addD (mI (m2 mulD (mPeek 1) (mC (.int 69069)))) (mI (m2 mulD (mPeek 2) (mC (.int 31)))))) (mC (.int 5)))))) (mC (.int 2147483629)))) (cs.map .int) [some d, some (.imm (.int i)), c]).all
    fun y => y.1 = .nx ∧ ∃ i c, y.2 = [some d, some (.imm (.int i)), c]
  | [], i, c => ⟨rfl, i, c, rfl⟩
  | n :: cs, i, c => by
    have ih := src2_run d cs
    have step : (forD (tgName 2) (sSet 1 (m2 modD (mI (m1 intD (mI (m2 addD (mI (m2 addD (mI (m2 mulD (mPeek 1) (mC (.int 69069)))) (mI (m2 mulD (mPeek 2) (mC (.int 31)))))) (mC (.int 5)))))) (mC (.int 2147483629)))) ((n :: cs).map .int) [some d, some (.imm (.int i)), c]) =
        (forD (tgName 2) (sSet 1 (m2 modD (mI (m1 intD (mI (m2 addD (mI (m2 addD (mI (m2 mulD (mPeek 1) (mC (.int 69069)))) (mI (m2 mulD (mPeek 2) (mC (.int 31)))))) (mC (.int 5)))))) (mC (.int 2147483629)))) (cs.map .int) [some d, some (.imm (.int ((i * 69069 + n * 31 + 5).fmod 2147483629))), some (.imm (.int n))]) := by
      simp [forD, tgName, sSet, m2, m1, mI, mPeek, mC, mulD, addD, modD, intD, slI, small_31, small_69]
    rw [step]
    exact ih _ _
theorem src_lc (s0 s1 : Option Sl) : ∀ (cs : List Int), lcD true [2] tYes' (mI (m1 absD (mPeek 2))) (cs.map .int) [s0, s1, none] = .ret (cs.map fun i => PyData.int (if i < 0 then -i else i), [s0, s1, none])
  | [] => rfl
  | n :: cs => by
    have ih := src_lc s0 s1 cs
    simp [lcD, tgNames, tYes', m1, mI, mPeek, absD, slI, wipeE, ih]
theorem intsOf_map : ∀ cs : List Int, intsOf (cs.map .int) = some cs
  | [] => rfl
  | c :: cs => by simp [intsOf, intsOf_map cs]
theorem src3_run (cs : List Int) (h : cs.length ≤ 1000000) (i : Int) (c : Option Sl) : (src3 [some (.scr cs), some (.imm (.int i)), c]).all fun y => ∃ ds cs' i, y.1 = .lst ds ∧ intsOf ds = some cs' ∧ y.2[1]? = some (some (.imm (.int i))) := by
  have e : (cs.map fun i => PyData.int (if i < 0 then -i else i)).reverse = ((cs.map fun i => if i < 0 then -i else i).reverse).map .int := by
    rw [← List.map_reverse, ← List.map_reverse, List.map_map]; rfl
  have key : (lcD true [2] tYes' (mI (m1 absD (mPeek 2))) (cs.map .int) (wipeE [2] [some (.scr cs), some (.imm (.int i)), c])) = .ret (cs.map fun i => PyData.int (if i < 0 then -i else i), [some (.scr cs), some (.imm (.int i)), none]) := src_lc _ _ cs
  simp only [src3, m1, mI, mLc, wScr, List.getElem?_cons_zero, bind_ret, List.length_map]
  rw [ok_pos h, key]
  simp only [bind_ret, slI, revD, all_ret]
  rw [e]
  refine ⟨_, _, i, rfl, intsOf_map _, ?_⟩
  simp only [restoreE]
  split <;> rfl
section
variable {P : Program} {w : World} {K : PySem.W.Frag} {mg : Str → Option Value} {base : Heap}
/-- _law_source as callers see it -/
structure CalS (P : Program) (w : World) (K : PySem.W.Frag) (mg : Str → Option Value) (base : Heap) (x : Str) (k : Nat) : Prop where
  ex : ∃ f fd, FnG P w K mg base k f fd ["script"] (spSrc K) ∧ mg x = some (.ref f) ∧ PySem.W.keepIn K (.ref f) = true ∧ Binds K fd ["script"] []
theorem CalS.of {x : Str} {st : Stmt} (F : Fct K mg x st ["script"]) (S : FnScope ["script", "mixed", "cell"] ["script"] (defScope st))
    (h : ∀ (f : Addr) (cd : Value) (A : Around) (outer : List Env) (s : Shared) (H : Hp) (E : XK), Room 0 (A.deeper (PyProof.Rows.envOfC x (defScope st) s.heap.objs.size f cd)) → A.guards = some [] →
      PSs (bodyX P w K mg base ["script", "mixed", "cell"] x (defScope st) f cd A outer s H E) (defBody st) (tSeq (RS K src1) (tSeq (RS K src2) (RSsrc K src3 1)))) :
    CalS P w K mg base x 1 := by
  obtain ⟨f, fd, F, hm, hb⟩ := F
  refine ⟨f, fd, fn_body F S (fun vs H Q E h => ?_) fun cd A outer s H vs Q E hr hG hsp => ⟨_, h f cd A outer s H E hr hG, ?_⟩, hm, F.kp, hb⟩
  · obtain ⟨R, Z, cs, v, rfl, _⟩ := h
    rfl
  · obtain ⟨R, Z, cs, v, rfl, hl, g, r, fin⟩ := hsp
    have s0 : SR K R Z none H (L2.start ["script", "mixed", "cell"] [v]) [some (.scr cs), none, none] :=
      sr_start (N := ["script", "mixed", "cell"]) (ss := [.scr cs]) g ⟨⟨rfl, r.any rfl⟩, trivial⟩
    refine ⟨R, Z, none, _, s0, ?_⟩
    show (src1 [some (.scr cs), none, none]).all _
    have e1 : src1 [some (.scr cs), none, none] = .ret (.nx, [some (.scr cs), some (.imm (.int 11)), none]) := rfl
    rw [e1]
    intro σ1 Z1 H1 ez1 s1
    refine ⟨R, Z1, none, _, s1, ?_⟩
    have e2 : src2 [some (.scr cs), some (.imm (.int 11)), none] = _ := rfl
    have q2 := src2_run (.scr cs) cs 11 none
    refine all_mono (fun y hy σ2 Z2 H2 ez2 s2 => ?_) (show (src2 [some (.scr cs), some (.imm (.int 11)), none]).all _ from q2)
    obtain ⟨y1, y2⟩ := y
    obtain ⟨rfl, i, c, rfl⟩ := hy
    refine ⟨R, Z2, _, s2, all_mono (fun y hy => ?_) (src3_run cs (by omega) i c)⟩
    obtain ⟨ds, cs', i, h1, h2, h3⟩ := hy
    exact ⟨ds, cs', i, h1, h2, h3, fun v Z' H' a c e g hv => fin v Z' H' a c ((ez1.trans ez2).trans e) g hv⟩
end
end PV

set_option Elab.async false
set_option linter.all false
set_option autoImplicit false
set_option maxRecDepth 100000
/-! PV17: the draw's worth. -/
namespace PV
open PySem PySem.Spec L2
def m_pick : MS := (sSeq (sSrcWh 0 1)
    (sSeq (sSet 2 (mE (mI (mSrc 0))))
    (sSeq (sIf (tOr (mT (mI (m2 ltD (mPeek 1) (mC (.int 2))))) (mT (mI (m2 gtD (mPeek 2) (mC (.int 1)))))) (sSeq (sSrc 0 (mI (m2 fdivD (mPeek 2) (mI (mA maxD (aCons (mC (.int 1)) (aCons (mVar 1) aNil)))))))
    (sRet (m2 modD (mI (m1 intD (mPeek 2))) (mI (mA maxD (aCons (mC (.int 1)) (aCons (mVar 1) aNil))))))) sNx)
    (sSeq (sSrc 0 (mI (m2 addD (mI (mSrc 0)) (mC (.int 1)))))
    (sSeq (sSet 3 (m2 modD (mI (m1 intD (mI (m2 addD (mI (mSrc 0)) (mI (m2 mulD (mI (mSrc 0)) (mC (.int 104729)))))))) (mC (.int 998244353))))
    (sSeq (sSet 3 (m2 modD (mI (m1 intD (mI (m2 addD (mI (m2 mulD (mPeek 3) (mPeek 3))) (mI (m2 mulD (mI (mSrc 0)) (mC (.int 17)))))))) (mC (.int 2147483647))))
    (sSeq (sSrc 0 (mVar 3))
    (sRet (m2 modD (mI (m1 intD (mI (m2 fdivD (mPeek 3) (mC (.int 16)))))) (mPeek 1))))))))))
theorem small_104 : smallI 104729 := by unfold smallI; constructor <;> decide
theorem small_17 : smallI 17 := by unfold smallI; constructor <;> decide
theorem small_mod (i : Int) : smallI (i.fmod 998244353) := by
  unfold smallI
  have h1 := Int.fmod_nonneg_of_pos i (b := 998244353) (by decide)
  have h2 := Int.fmod_lt_of_pos i (b := 998244353) (by decide)
  constructor <;> omega
theorem pick_ok (ss : List Sl) (Q : Sl → Prop) (h : (w_pick ss).all Q) : (run 4 m_pick ss).all Q := by
  unfold w_pick at h
  split at h
  · rename_i n
    obtain ⟨⟨b1, b2⟩, h⟩ := ok_all h
    rw [all_pick] at h
    have e0 : run 4 m_pick [.src, .imm (.int n)] = (m_pick [some .src, some (.imm (.int n)), none, none]).bind fun x => match x.1 with
      | .nx => .ret (.imm .none)
      | .rt s => .ret s
      | _ => .bad := rfl
    rw [e0]
    have hb : ∀ j : Int, Q (.imm (.int (j.fmod (if n > 1 then n else 1)))) := fun j => by
      split
      · rename_i h1
        have g1 := Int.fmod_nonneg_of_pos j (b := n) (by omega)
        have g2 := Int.fmod_lt_of_pos j (b := n) (by omega)
        have := h (j.fmod n) g1 (by rw [if_pos h1]; exact g2)
        simpa using this
      · rename_i h1
        have g1 := Int.fmod_nonneg_of_pos j (b := 1) (by omega)
        have g2 := Int.fmod_lt_of_pos j (b := 1) (by omega)
        have := h (j.fmod 1) g1 (by rw [if_neg h1]; exact g2)
        simpa using this
    have hz : (if n > 1 then n else 1) ≠ 0 ∧ (if n > 1 then n else 1 : Int).natAbs < 1073741824 := by split <;> omega
    have hz2 : (if n > 1 then n else 1) ≠ 0 := hz.1
    by_cases hn : n < 2
    · simp [m_pick, sSeq, sSrcWh, sSet, sIf, sSrc, sRet, sNx, tOr, mT, mI, mE, mSrc, m2, m1, mC, mPeek, mVar, mA, aCons, aNil, ltD, gtD, cmpI, fdivD, modD, maxD, intD, addD, mulD, slI, bool?, int?, hn, hz, hz2]
      intro j
      exact hb j
    · have hn' : n > 1 := by omega
      have hne : n ≠ 0 := by omega
      simp [m_pick, sSeq, sSrcWh, sSet, sIf, sSrc, sRet, sNx, tOr, mT, mI, mE, mSrc, m2, m1, mC, mPeek, mVar, mA, aCons, aNil, ltD, gtD, cmpI, fdivD, modD, maxD, intD, addD, mulD, slI, bool?, int?, hn, hn', small_104, small_17, small_mod, hne]
      have hna : n.natAbs < 1073741824 := by omega
      have hb' : ∀ j : Int, Q (.imm (.int (j.fmod n))) := fun j => by have := hb j; rw [if_pos hn'] at this; exact this
      intro j
      by_cases hj : 1 < j
      · simp [hj, hna, hne, hn', slI, int?]
        exact hb' j
      · simp [hj, small_104, small_17, small_mod, slI, int?, hne]
        intros
        exact hb' _
  · exact h.elim
end PV

set_option Elab.async false
set_option linter.all false
set_option autoImplicit false
set_option maxRecDepth 100000
/-! PV18: a law's first row, its def's worth, the end of a law's row. -/
namespace PV
open PySem PySem.Spec L2

section
variable {X : Cx} {p1 p2 p3 p4 p5 : Pos} {k j : Nat}
/-- source = _law_source(script): the rest is read with the source in slot i -/
def TSrc (K : PySem.W.Frag) (i n : Nat) : TS := fun D σ H => ∃ Z cs v, σ.length = n ∧ σ[0]? = some (some v) ∧ cs.length ≤ 1000 ∧ Good (fun _ => none) Z none H ∧ RSl K Z none H v (.scr cs) ∧
  ∀ R Z' H' b c, SR K R Z' (some (b, c)) H' (σ.set i (some (.ref b))) ((some (.scr cs) :: List.replicate (n - 1) none).set i (some .src)) → D.nx (σ.set i (some (.ref b))) H'
theorem ps_source (CS : CalS X.prog X.w X.K X.mg X.base "_law_source" 1) (hr : Room (k + 1) X.A) (hG : X.A.guards = some []) (hg : Gl X "_law_source") (hN : X.N.Nodup) {i : Nat} (hi : X.N[i]? = some "source" := by rfl) (hx : Loc X.env.scope "source" := by first | exact Or.inl rfl | exact Or.inr rfl)
    (h0 : PE X (.Name "script" p1) (tVar 0)) (he : starEach [.Name "script" p1] X.env = (false, eval (.Name "script" p1) X.env) :: starEach [] X.env := by rfl) (hpl : (backTo p3 (starEach [] X.env)).any (·.1) = false := by rfl)
    (hs : swapsWith (.Call (.Name "_law_source" p2) [.Name "script" p1] [] p3) (some (.Name "source" p4)) p5.line X.env = pure false := by rfl) (hf : X.fn "source" = true ∨ X.env.scope.names.lookup ("source" : Str) = some .local := by first | exact .inl rfl | exact .inr rfl) :
    PS X (.Assign [.Name "source" p4] (.Call (.Name "_law_source" p2) [.Name "script" p1] [] p3) p5) (TSrc X.K i X.N.length) := by
  obtain ⟨f, fd, F, hm, hk, hb⟩ := CS
  refine ps_weak (ps_set hN hi hx (pe_callG (F.mono (Nat.le_add_left 1 k)) hr hG hg hm hk hb (pa_cons h0 pa_nil he) (by decide) he hpl) hs hf) fun D σ H ⟨Z, cs, v, hl, hv, hc, g, r, q⟩ => ?_
  refine ⟨v, hv, restH Z none H, Z, cs, v, rfl, hc, ?_, r, fun w Z' H' b c e g' hw => ?_⟩
  · exact g.rest
  · subst hw
    refine q (restH Z none H) Z' H' b c ?_
    have s0 : SR X.K (restH Z none H) Z' (some (b, c)) H' σ (some (.scr cs) :: List.replicate (X.N.length - 1) none) := by
      refine ⟨g', ?_, fun i s h => ?_, fun i j s t u hij h1 h2 o1 o2 => ?_⟩
      · obtain ⟨h, _⟩ := List.getElem?_eq_some_iff.mp hv
        simp only [List.length_cons, List.length_replicate]
        omega
      · cases i with
        | zero =>
          simp at h
          subst h
          obtain ⟨a, rfl, hq⟩ := r
          exact ⟨_, hv, ⟨a, rfl, Same.sql e hq⟩, fun z => nomatch z⟩
        | succ i =>
          rw [List.getElem?_cons_succ, List.getElem?_replicate] at h
          split at h <;> cases h
      · cases i with
        | zero => simp at h1; subst h1; cases o1
        | succ i =>
          rw [List.getElem?_cons_succ, List.getElem?_replicate] at h1
          split at h1 <;> cases h1
    exact s0.setFree (i := i) (v := .ref b) (s := .src) rfl ⟨b, c, rfl, rfl⟩
end
/-- what a law's def keeps -/
def spTrue (K : PySem.W.Frag) : Sp := fun vs H Q _ => ∃ Z cs v, vs = [v] ∧ cs.length ≤ 1000 ∧ Good (fun _ => none) Z none H ∧ RSl K Z none H v (.scr cs) ∧ ∀ H', Q (.bl true) H'
/-- the law's rest, by value, is true -/
structure LawOk (n : Nat) (m : MS) : Prop where
  ok : ∀ cs : List Int, cs.length ≤ 1000 → (m ((some (.scr cs) :: List.replicate (n - 1) none).set 1 (some .src))).all fun y => y.1 = .rt (.imm (.bool true))
section
variable {P : Program} {w : World} {K : PySem.W.Frag} {mg : Str → Option Value} {base : Heap}
theorem law_fn {st : Stmt} {N : List Str} {k : Nat} {m : MS} {f : Addr} {fd : FuncData} (F : Fun K "law" "law" st f fd) (S : FnScope N ["script"] (defScope st)) {n : Nat} (hn : N.length = n) (hm : LawOk n m)
    (h : ∀ (f : Addr) (cd : Value) (A : Around) (outer : List Env) (s : Shared) (H : Hp) (E : XK), Room k (A.deeper (PyProof.Rows.envOfC "law" (defScope st) s.heap.objs.size f cd)) → A.guards = some [] →
      PSs (bodyX P w K mg base N "law" (defScope st) f cd A outer s H E) (defBody st) (tSeq (TSrc K 1 N.length) (RS K m))) :
    FnG P w K mg base (k + 1) f fd ["script"] (spTrue K) := by
  subst hn
  refine fn_body F S (fun vs H Q E h => ?_) fun cd A outer s H vs Q E hr hG hsp => ⟨_, h f cd A outer s H E hr hG, ?_⟩
  · obtain ⟨Z, cs, v, rfl, _⟩ := h
    rfl
  · obtain ⟨Z, cs, v, rfl, hl, g, r, fin⟩ := hsp
    have hN : 0 < N.length := by
      have hp := S.pre
      cases N with
      | nil => cases hp
      | cons _ _ => simp
    refine ⟨Z, cs, v, ?_, ?_, hl, g, r, fun R Z' H' b c s2 => ?_⟩
    · unfold L2.start
      simp
      omega
    · unfold L2.start
      simp
    · refine ⟨R, Z', _, _, s2, all_mono (fun y hy σ' Z2 H2 e s3 => ?_) (hm.ok cs hl)⟩
      rw [hy]
      intro v res
      have := res.r
      cases this
      exact fin H2
end
/-! ### the end: from the worth of the law's def to the row -/
section
variable {P : Program} {w : World} {K : PySem.W.Frag} {mg mb : Str → Option Value} {k : Nat} {fa a : Addr} {fd : FuncData} {s₁ : Shared} {vs : List Value} {ns : List Int}
theorem call_true (KX : K.In s₁.heap) (hns : s₁.heap.Ns mainGlobals mg) (hb : s₁.heap.Ns builtinsNs mb) (hbb : ∀ x : Str, x ≠ "__name__" → mb x = bootBuiltins x) (hlim : s₁.heap.NoLimit) (hg : s₁.gens = #[])
    (ha : s₁.heap.get? a = some { cls := .type "list", data := .seq vs.toArray }) (hi : PyProof.Rows.IntsAre vs ns) (hl : ns.length ≤ 1000) (hr : Room k callerA) (hG : callerA.guards = some [])
    (F : ∀ base : Heap, K.In base → base.Ns mainGlobals mg → FnG P w K mg base k fa fd ["script"] (spTrue K)) (hbind : ∀ (s : Shared) (u : Value), BindsTo s fd ⟨[u], []⟩ [("script", u)]) :
    codeAny (model P w) callerA (.call (.ref fa) ⟨[.ref a], []⟩) (fun r s' => r = .ok (.ret (.bool true)) ∧ PySem.OldK s₁.heap s'.heap ∧ s'.os = s₁.os ∧ PyProof.Rows.AllBare s'.gens) s₁ := by
  have rv : Vals (ns.map V.int) vs := vals_of_ints hi
  have lenV := hi.length
  let ob : Obj := { cls := .type "list", data := .seq vs.toArray }
  -- the script is tracked, its object told, unless it is one of the module's own
  let H : Hp := fun b => if b = a ∧ K.lookup a = none then some (.frz ob (.lst (ns.map V.int))) else none
  have hH : ∀ b u, H b = some u → b = a ∧ K.lookup a = none ∧ u = .frz ob (.lst (ns.map V.int)) := fun b u h => by
    by_cases c : b = a ∧ K.lookup a = none
    · have e := (if_pos c).symm.trans h
      cases e
      exact ⟨c.1, c.2, rfl⟩
    · have e := (if_neg c).symm.trans h
      cases e
  have hS : SqL K H a (ns.map V.int) := by
    cases q : K.lookup a with
    | none => exact .inl (.inr ⟨ob, if_pos ⟨rfl, q⟩⟩)
    | some o =>
      have e := KX a o q
      rw [ha] at e
      cases e
      exact .inr ⟨_, vs.toArray, _, q, rfl, rfl, rfl, by rw [List.size_toArray, lenV]; exact Nat.le_trans hl (by decide), by simpa using rv⟩
  have hok : HOk P w H s₁.heap := fun b u h => by
    obtain ⟨rfl, _, rfl⟩ := hH b u h
    exact ⟨ha, by rw [List.length_map]; exact Nat.le_trans hl (by decide), vs, _, rv, ha⟩
  have at_ : ∀ {b : Addr} {o : Obj}, s₁.heap.get? b = some o → H b = none → (hidT s₁.heap H).get? b = some o := fun e n => hidT_get e n
  have offD : ∀ {b : Addr} {o : Obj} {es : Array DictEntry} {ep : Nat}, s₁.heap.get? b = some o → o.data = .dict es ep → H b = none := fun {b o es ep} e d => by
    cases q : H b with
    | none => rfl
    | some u =>
      obtain ⟨rfl, _, _⟩ := hH b u q
      rw [ha] at e; cases e
      have d' : Data.seq vs.toArray _ = Data.dict es ep := d
      cases d'
  have nsK : ∀ {b : Addr} {m : Str → Option Value}, s₁.heap.Ns b m → (hidT s₁.heap H).Ns b m := fun {b m} ⟨o, es, ep, e, d, r⟩ => ⟨o, es, ep, at_ e (offD e d), d, r⟩
  have hKb : K.In (hidT s₁.heap H) := fun b o e => at_ (KX b o e) (by
    cases q : H b with
    | none => rfl
    | some u =>
      obtain ⟨rfl, q2, _⟩ := hH b u q
      rw [q2] at e; cases e)
  have hM : Mod K mg (hidT s₁.heap H) := ⟨hKb, nsK hns, ⟨mb, nsK hb, hbb⟩, let ⟨mc, h1, h2⟩ := hlim; ⟨mc, nsK h1, h2⟩⟩
  have e0 : Env0 P w K mg (hidT s₁.heap H) callerA [] s₁ H := ⟨rfl, hM, fun b o e => of_hidT e, Nat.le_of_eq (hidT_size _ _), trivial, fun b hb => absurd (show b ∈ ([] : List Addr) from hb) (by simp), hok, .of_eq hg⟩
  have good : Good (fun _ => none) H none H := ⟨(fun x o h => nomatch h), (fun x o h => h), trivial, (fun x o h => nomatch h), (fun x n => False.elim n), fun x xs h => by
    obtain ⟨_, _, e⟩ := hH x _ h
    cases e⟩
  refine codeAny_mono ((F _ hKb (nsK hns)).go callerA [] s₁ H ⟨[.ref a], []⟩ [.ref a] [.ref a] (fun v _ => v = .bl true) (fun _ _ _ => False) hr hG e0 (hbind s₁ (.ref a)) (.cons rfl .nil) ⟨H, ns, .ref a, rfl, hl, good, ⟨a, rfl, hS⟩, fun _ => rfl⟩) fun r s' h => ?_
  cases r with
  | error e => exact False.elim h
  | ok fl =>
    cases fl with
    | next => exact False.elim h
    | brk => exact False.elim h
    | cont => exact False.elim h
    | ret u =>
      obtain ⟨v, H', os, bare, un, hok', r', q⟩ := h
      have q' : v = .bl true := q
      subst q'
      obtain rfl : u = Value.bool true := r'
      refine ⟨rfl, PySem.OldK.of_keep fun b o e => ?_, os, bare⟩
      cases q : H b with
      | none => exact un.keep b o e q (by intro z; exact absurd (show b ∈ ([] : List Addr) from z) (by simp)) (by simp)
      | some u =>
        obtain ⟨rfl, _, rfl⟩ := hH b u q
        have z2 := un.frzs b ob _ q
        obtain ⟨e1, _⟩ := hok b _ q
        obtain ⟨e2, _⟩ := hok' b _ z2
        rw [e] at e1; cases e1
        exact e2
end
theorem walk_true {l : PySem.W.OpenLaw} {n k : Nat} {q : Program} {loose : List Str} {XP : (Str → Option Value) → Heap → Prop} {YP : World → Heap → Prop} {d : DefRec} {K : Params → PySem.W.Frag}
    (hn : l.most = some n) (hn2 : n ≤ 1000) (hdf : d.params.defaults = []) (hr : Room k callerA) (hG : callerA.guards = some [])
    (hY : ∀ (w : World) (h : Heap), YP w h → (K w.params).In h)
    (F : ∀ (w : World) (mg : Str → Option Value) (fa : Addr) (h : Heap), (K w.params).In h → h.Ns mainGlobals mg → mg d.name = some (.ref fa) →
      ∃ fd : FuncData, (∀ (s : Shared) (u : Value), BindsTo s fd ⟨[u], []⟩ [("script", u)]) ∧
        ∀ base : Heap, (K w.params).In base → base.Ns mainGlobals mg → FnG l.prog w (K w.params) mg base k fa fd ["script"] (spTrue (K w.params))) :
    PySem.W.WalkO q loose XP YP l.row.toRowW d [] (fun f vs => PySem.call f vs) := by
  refine Att.attach_call hn hdf fun w s₀ s₁ mg mb fa o pm cd doc a vs ns G Y ho hd hcd hmg hobj hints hlen hg => ?_
  have KX := hY w _ Y
  obtain ⟨fd, hb, hF⟩ := F w mg fa _ KX G.T.g hmg
  exact call_true KX G.T.g G.T.b G.T.builtins G.T.nolimit hg hobj hints (Nat.le_trans hlen hn2) hr hG hF hb
end PV

set_option Elab.async false
set_option linter.all false
set_option autoImplicit false
set_option maxRecDepth 100000
/-! PV19: a tuple some times. -/
namespace PV
open PySem PySem.Spec
open AutoSeq1 (wpAny_loadPart')
theorem tuple_mul1 (l : Addr) (items : Array Value) (n : Nat) (dd : Option Addr) (sl : Array (Option Value)) (x : Int) (u : Tok) (c0 : (decide (x < -(2 ^ 63)) || decide (x ≥ 2 ^ 63)) = false) (c1 : (items.isEmpty || x == 1) = true) :
    Meets (Builtin.«tuple.__mul__» ⟨[.ref l, .int x u], []⟩) (fun _ R s => s.heap.get? l = some { cls := .type "tuple", dict := dd, data := .seq items n, slots := sl } ∧
      R (.ok (.ret (.ref l))) s) :=
  .of_wp fun prog w A R s h => by
    obtain ⟨hp, g, d, tk, os⟩ := s
    obtain ⟨hl, h⟩ := h
    have f1 := AutoSeq1.idx_int
    wp_walk using wpAny_loadPart' hl
    repeat (first
      | (refine wpAny_ite_false (decide_eq_false (by rw [c0]; exact Bool.false_ne_true)) ?_; wp_walk using wpAny_loadPart' hl)
      | (refine wpAny_ite_true (decide_eq_true c1) ?_; wp_walk using wpAny_loadPart' hl))
    exact ⟨_, rfl, h⟩
theorem tuple_mul0 (l : Addr) (items : Array Value) (n : Nat) (dd : Option Addr) (sl : Array (Option Value)) (x : Int) (u : Tok) (c0 : (decide (x < -(2 ^ 63)) || decide (x ≥ 2 ^ 63)) = false) (c1 : (items.isEmpty || x == 1) = false) (c2 : (decide (x ≤ 0) || items.isEmpty) = true) :
    Meets (Builtin.«tuple.__mul__» ⟨[.ref l, .int x u], []⟩) (fun _ R s => s.heap.get? l = some { cls := .type "tuple", dict := dd, data := .seq items n, slots := sl } ∧
      R (.ok (.ret (Value.ref s.heap.objs.size))) { s with heap := s.heap.push { cls := Value.type "tuple", data := Data.seq #[] }, toks := s.toks }) :=
  .of_wp fun prog w A R s h => by
    obtain ⟨hp, g, d, tk, os⟩ := s
    obtain ⟨hl, h⟩ := h
    have f1 := AutoSeq1.idx_int
    wp_walk using wpAny_loadPart' hl
    repeat (first
      | (refine wpAny_ite_false (decide_eq_false (by rw [c0]; exact Bool.false_ne_true)) ?_; wp_walk using wpAny_loadPart' hl)
      | (refine wpAny_ite_false (decide_eq_false (by rw [c1]; exact Bool.false_ne_true)) ?_; wp_walk using wpAny_loadPart' hl)
      | (refine wpAny_ite_true (decide_eq_true c2) ?_; wp_walk using wpAny_loadPart' hl))
    exact ⟨_, rfl, h⟩
end PV
namespace PV
open PySem PySem.Spec L2
section
variable {X : Cx}
def mulT : PyData → PyData → Tr Sl
  | .tuple _, _ => .bad
  | d, e => mulD d e
theorem rep_one {α : Type} (xs : List α) : (List.replicate (1 : Int).toNat xs).flatten = xs := by simp
theorem rep_nil {α : Type} (k : Nat) : (List.replicate k ([] : List α)).flatten = [] := by simp
theorem mulT_V : OpV X (binaryOp .Mult) mulT := by
  rintro pins s σ H x y v u Q I rx ry ⟨R, Z, S, d, e, g, bx, by_, h⟩
  cases d with
  | tuple xs => exact h.elim
  | int i => exact mul_V pins s σ H x y v u Q I rx ry ⟨R, Z, S, _, e, g, bx, by_, h⟩
  | list xs => exact mul_V pins s σ H x y v u Q I rx ry ⟨R, Z, S, _, e, g, bx, by_, h⟩
  | none => exact mul_V pins s σ H x y v u Q I rx ry ⟨R, Z, S, _, e, g, bx, by_, h⟩
  | bool i => exact mul_V pins s σ H x y v u Q I rx ry ⟨R, Z, S, _, e, g, bx, by_, h⟩
  | str i => exact mul_V pins s σ H x y v u Q I rx ry ⟨R, Z, S, _, e, g, bx, by_, h⟩
  | dict i => exact mul_V pins s σ H x y v u Q I rx ry ⟨R, Z, S, _, e, g, bx, by_, h⟩
end
end PV

set_option Elab.async false
set_option linter.all false
set_option autoImplicit false
set_option maxRecDepth 100000
/-! PV20: names as arguments; defs of the module. -/
namespace PV
open PySem PySem.Spec L2
/-- a name as an argument: as it is; a list of its own is lasting from then on -/
def gNm (i : Nat) (r : MG) : MG := fun env => match env[i]? with
  | some (some (.imm d)) => (r env).bind fun xs => .ret (.imm d :: xs.1, xs.2)
  | some (some (.ft d)) => (r env).bind fun xs => .ret (.ft d :: xs.1, xs.2)
  | some (some (.lst ds)) => (r (env.set i (some (.imm (.list ds))))).bind fun xs => .ret (.imm (.list ds) :: xs.1, xs.2)
  | _ => .bad
section
variable {X : Cx} {e : Expr} {es : List Expr} {q : Bool} {mg' : MG}
theorem vg_nm {i : Nat} (ha : PE X e (tVar i)) (hr : VG X q es mg') (hs : starEach (e :: es) X.env = (false, eval e X.env) :: starEach es X.env := by rfl) : VG X q (e :: es) (gNm i mg') :=
  pa_weak (pa_cons ha hr hs) fun σ H Q ⟨R, Z, S, env, s, k⟩ => by
    unfold gNm at k
    split at k
    · rename_i d hd
      obtain ⟨v, h1, h2, h3⟩ := s.sl i _ hd
      exact ⟨v, h1, R, Z, S, env, s, all_mono (fun y' k' vs Z2 H2 e2 st2 s2 r2 => k' (v :: vs) Z2 H2 e2 st2 s2 ⟨⟨rfl, h2.mono e2 fun _ _ z => nomatch z⟩, r2⟩) (all_bind.mp k)⟩
    · rename_i d hd
      obtain ⟨v, h1, h2, h3⟩ := s.sl i _ hd
      exact ⟨v, h1, R, Z, S, env, s, all_mono (fun y' k' vs Z2 H2 e2 st2 s2 r2 => k' (v :: vs) Z2 H2 e2 st2 s2 ⟨⟨rfl, h2.mono e2 fun _ _ z => nomatch z⟩, r2⟩) (all_bind.mp k)⟩
    · rename_i ds hd
      obtain ⟨v, h1, h2, h3⟩ := s.sl i _ hd
      obtain ⟨a, vs, rfl, ha, hr⟩ := h2
      have sd := s.drop (i := i)
      obtain ⟨z1, z2, z3⟩ := sd.freeze ha (h3 rfl a rfl) hr fun j t hj ho q => by
        by_cases hij : i = j
        · subst hij
          have hl : i < env.length := (List.getElem?_eq_some_iff.mp hd).1
          rw [List.getElem?_set_self hl] at hj; cases hj
        · rw [List.getElem?_set_ne hij] at hj
          exact s.ds i j _ t (.ref a) hij hd hj rfl ho h1 q
      have z4 := z1.setFree (i := i) (v := .ref a) (s := .imm (.list ds)) rfl z3
      have e1 : σ.set i (some (.ref a)) = σ := by
        obtain ⟨hl, e⟩ := List.getElem?_eq_some_iff.mp h1
        rw [← e]; exact List.set_getElem_self hl
      have e2 : (env.set i none).set i (some (.imm (.list ds))) = env.set i (some (.imm (.list ds))) := List.set_set ..
      rw [e1, e2] at z4
      exact ⟨_, h1, R, _, S, _, z4, all_mono (fun y' k' vs Z2 H2 e2 st2 s2 r2 => k' (_ :: vs) Z2 H2 (z2.trans e2) st2 s2 ⟨⟨rfl, z3.mono e2⟩, r2⟩) (all_bind.mp k)⟩
    · exact k.elim
end
/-! ### from the module's top to the facts about its defs -/
section
variable {K : PySem.W.Frag} {h : Heap} {mg : Str → Option Value}
theorem fct_mk {x : Str} {st : Stmt} {ps : List Str} {f : Addr} {od an : Option Addr} {sl : Array (Option Value)} {oc kV dc pm cd ct : Value} (X : K.In h) (G : h.Ns mainGlobals mg)
    (a : PySem.W.nsIn K mainGlobals x = some (some (.ref f))) (l : K.lookup f = some ⟨oc, od, .func (PySem.W.fnOf x x (defArgs st) (defBody st) (defScope st) .none kV dc pm an cd ct), sl⟩) (c : PySem.W.codeIn K cd x = true) (k : PySem.W.keepIn K (.ref f) = true)
    (b : ∀ fd, Fun K x x st f fd → Binds K fd ps []) : Fct K mg x st ps :=
  ⟨f, _, fun_mk (st := st) l c k, PySem.W.mg_of X G a, b _ (fun_mk (st := st) l c k)⟩
end
end PV

set_option Elab.async false
set_option linter.all false
set_option autoImplicit false
set_option maxRecDepth 100000
/-! PV21: what holds of all draws, told by steps: WP t P is t.all P, not to be unfolded; what follows a step is a named rest (kXx), so that a rewriting walk goes on only where a value stands. -/
namespace PV
open PySem PySem.Spec L2

@[irreducible] def WP {α : Type} (t : Tr α) (P : α → Prop) : Prop := t.all P
section
variable {α β : Type}
theorem wp_is (t : Tr α) (P : α → Prop) : WP t P = t.all P := by unfold WP; rfl
theorem wp_ret (a : α) (P : α → Prop) : WP (.ret a) P = P a := by rw [wp_is]; rfl
theorem wp_bad (P : α → Prop) : WP .bad P = False := by rw [wp_is]; rfl
theorem wp_pick (n : Int) (k : Int → Tr α) (P : α → Prop) : WP (.pick n k) P = ∀ i, 0 ≤ i → i < n → WP (k i) P := by simp only [wp_is]; rfl
theorem wp_any (k : Int → Tr α) (P : α → Prop) : WP (.any k) P = ∀ i, WP (k i) P := by simp only [wp_is]; rfl
theorem wp_bind (t : Tr α) (f : α → Tr β) (P : β → Prop) : WP (t.bind f) P = WP t fun a => WP (f a) P := by simp only [wp_is]; exact propext all_bind
theorem wp_ok (c : Prop) [Decidable c] (t : Tr α) (P : α → Prop) : WP (ok c t) P = (c ∧ WP t P) := by
  unfold ok
  by_cases h : c
  · rw [if_pos h]; simp only [h, true_and]
  · rw [if_neg h, wp_bad]; simp only [h, false_and]
theorem wp_mono {t : Tr α} {P Q : α → Prop} (h : ∀ a, P a → Q a) (p : WP t P) : WP t Q := by
  rw [wp_is] at *
  exact all_mono h p
theorem wp_if (c : Prop) [Decidable c] (a b : Tr α) (P : α → Prop) : WP (if c then a else b) P = if c then WP a P else WP b P := by split <;> rfl
end
section
variable {α : Type} {P : Sl × Ev → Prop} {PI : PyData × Ev → Prop} {PM : List PyData × Ev → Prop} {PB : Bool × Ev → Prop} {PO : Option Int × Ev → Prop} {PG : List Sl × Ev → Prop} {PS : Fl × Ev → Prop} {PT : Ev → Prop} {Ps : Sl → Prop}
variable (env : Ev) (i j l n : Nat) (d e : PyData) (s : Sl) (ds es : List PyData) (ss : List Sl) (b : Bool)

/-! ### rests -/
def kR (env : Ev) (P : α × Ev → Prop) : α → Prop := fun r => P (r, env)
theorem kR_ap (P : α × Ev → Prop) (r : α) : kR env P r = P (r, env) := Eq.trans rfl rfl
def slP (s : Sl) (P : PyData → Prop) : Prop := WP (slI s) P
theorem slP_imm (K : PyData → Prop) : slP (.imm d) K = K d := wp_ret ..
theorem slP_lst (K : PyData → Prop) : slP (.lst ds) K = K (.list ds) := wp_ret ..
theorem slP_ft (K : PyData → Prop) : slP (.ft ds) K = K (.tuple ds) := wp_ret ..
def kE (P : Sl × Ev → Prop) : PyData × Ev → Prop := fun y => P (.imm y.1, y.2)
theorem kE_ap : kE P (d, env) = P (.imm d, env) := Eq.trans rfl rfl
def kI (P : PyData × Ev → Prop) : Sl × Ev → Prop := fun y => slP y.1 (kR y.2 P)
theorem kI_ap : kI PI (s, env) = slP s (kR env PI) := Eq.trans rfl rfl
def k1 (f : PyData → Tr Sl) (P : Sl × Ev → Prop) : PyData × Ev → Prop := fun x => WP (f x.1) (kR x.2 P)
theorem k1_ap (f : PyData → Tr Sl) : k1 f P (d, env) = WP (f d) (kR env P) := Eq.trans rfl rfl
def k2b (f : PyData → PyData → Tr Sl) (d : PyData) (P : Sl × Ev → Prop) : PyData × Ev → Prop := fun y => WP (f d y.1) (kR y.2 P)
theorem k2b_ap (f : PyData → PyData → Tr Sl) : k2b f d P (e, env) = WP (f d e) (kR env P) := Eq.trans rfl rfl
def k2 (f : PyData → PyData → Tr Sl) (mb : MI) (P : Sl × Ev → Prop) : PyData × Ev → Prop := fun x => WP (mb x.2) (k2b f x.1 P)
theorem k2_ap (f : PyData → PyData → Tr Sl) (mb : MI) : k2 f mb P (d, env) = WP (mb env) (k2b f d P) := Eq.trans rfl rfl
def k2s (f : PyData → PyData → Tr Sl) (mb : MI) (P : Sl × Ev → Prop) : PyData × Ev → Prop := fun x => match x.1 with
  | .list _ => WP (mb x.2) (k2b f x.1 P)
  | _ => False
theorem k2s_ap (f : PyData → PyData → Tr Sl) (mb : MI) : k2s f mb P (.list ds, env) = WP (mb env) (k2b f (.list ds) P) := Eq.trans rfl rfl
def k3c (f : PyData → Option Int → Option Int → Tr Sl) (d : PyData) (o : Option Int) (P : Sl × Ev → Prop) : Option Int × Ev → Prop := fun h => WP (f d o h.1) (kR h.2 P)
theorem k3c_ap (f : PyData → Option Int → Option Int → Tr Sl) (o u : Option Int) : k3c f d o P (u, env) = WP (f d o u) (kR env P) := Eq.trans rfl rfl
def k3b (f : PyData → Option Int → Option Int → Tr Sl) (d : PyData) (mh : MO) (P : Sl × Ev → Prop) : Option Int × Ev → Prop := fun o => WP (mh o.2) (k3c f d o.1 P)
theorem k3b_ap (f : PyData → Option Int → Option Int → Tr Sl) (mh : MO) (o : Option Int) : k3b f d mh P (o, env) = WP (mh env) (k3c f d o P) := Eq.trans rfl rfl
def k3 (f : PyData → Option Int → Option Int → Tr Sl) (ml mh : MO) (P : Sl × Ev → Prop) : PyData × Ev → Prop := fun x => WP (ml x.2) (k3b f x.1 mh P)
theorem k3_ap (f : PyData → Option Int → Option Int → Tr Sl) (ml mh : MO) : k3 f ml mh P (d, env) = WP (ml env) (k3b f d mh P) := Eq.trans rfl rfl
def kOI (P : Option Int × Ev → Prop) : PyData × Ev → Prop := fun x => match x.1 with
  | .int i => P (some i, x.2)
  | _ => False
theorem kOI_ap (z : Int) : kOI PO (.int z, env) = PO (some z, env) := Eq.trans rfl rfl
def kT (P : Bool × Ev → Prop) : PyData × Ev → Prop := fun x => match x.1 with
  | .bool b => P (b, x.2)
  | _ => False
theorem kT_ap : kT PB (.bool b, env) = PB (b, env) := Eq.trans rfl rfl
def kAnd (m : MT) (P : Bool × Ev → Prop) : Bool × Ev → Prop := fun x => if x.1 = true then WP (m x.2) P else P (false, x.2)
theorem kAnd_ap (m : MT) : kAnd m PB (b, env) = if b = true then WP (m env) PB else PB (false, env) := Eq.trans rfl rfl
def kOr (m : MT) (P : Bool × Ev → Prop) : Bool × Ev → Prop := fun x => if x.1 = true then P (true, x.2) else WP (m x.2) P
theorem kOr_ap (m : MT) : kOr m PB (b, env) = if b = true then PB (true, env) else WP (m env) PB := Eq.trans rfl rfl
def kNot (P : Bool × Ev → Prop) : Bool × Ev → Prop := fun x => P (!x.1, x.2)
theorem kNot_ap : kNot PB (b, env) = PB (!b, env) := Eq.trans rfl rfl
def kVA (m : MI) (P : PyData × Ev → Prop) : PyData × Ev → Prop := fun x => match x.1 with
  | .bool b => if b = true then WP (m x.2) P else P (.bool false, x.2)
  | _ => False
theorem kVA_ap (m : MI) : kVA m PI (.bool b, env) = if b = true then WP (m env) PI else PI (.bool false, env) := Eq.trans rfl rfl
def kVO (m : MI) (P : PyData × Ev → Prop) : PyData × Ev → Prop := fun x => match x.1 with
  | .bool b => if b = true then P (.bool true, x.2) else WP (m x.2) P
  | _ => False
theorem kVO_ap (m : MI) : kVO m PI (.bool b, env) = if b = true then PI (.bool true, env) else WP (m env) PI := Eq.trans rfl rfl
def kVN (P : PyData × Ev → Prop) : PyData × Ev → Prop := fun x => match x.1 with
  | .bool b => P (.bool (!b), x.2)
  | _ => False
theorem kVN_ap : kVN PI (.bool b, env) = PI (.bool (!b), env) := Eq.trans rfl rfl
/-- after a test: one of two -/
def kIf (a b : Ev → Tr α) (P : α → Prop) : Bool × Ev → Prop := fun x => if x.1 = true then WP (a x.2) P else WP (b x.2) P
theorem kIf_ap (a c : Ev → Tr α) (P : α → Prop) : kIf a c P (b, env) = if b = true then WP (a env) P else WP (c env) P := Eq.trans rfl rfl
def kC2 (d : PyData) (P : List PyData × Ev → Prop) : List PyData × Ev → Prop := fun xs => P (d :: xs.1, xs.2)
theorem kC2_ap : kC2 d PM (ds, env) = PM (d :: ds, env) := Eq.trans rfl rfl
def kC1 (r : MA) (P : List PyData × Ev → Prop) : PyData × Ev → Prop := fun x => WP (r x.2) (kC2 x.1 P)
theorem kC1_ap (r : MA) : kC1 r PM (d, env) = WP (r env) (kC2 d PM) := Eq.trans rfl rfl
def kTup (P : Sl × Ev → Prop) : List PyData × Ev → Prop := fun x => x.1.length ≤ 1000000 ∧ P (.imm (.tuple x.1), x.2)
theorem kTup_ap : kTup P (ds, env) = (ds.length ≤ 1000000 ∧ P (.imm (.tuple ds), env)) := Eq.trans rfl rfl
def kLst (P : Sl × Ev → Prop) : List PyData × Ev → Prop := fun x => x.1.length ≤ 1000000 ∧ P (.lst x.1, x.2)
theorem kLst_ap : kLst P (ds, env) = (ds.length ≤ 1000000 ∧ P (.lst ds, env)) := Eq.trans rfl rfl
def kA (g : List PyData → Tr Sl) (P : Sl × Ev → Prop) : List PyData × Ev → Prop := fun x => WP (g x.1) (kR x.2 P)
theorem kA_ap (g : List PyData → Tr Sl) : kA g P (ds, env) = WP (g ds) (kR env P) := Eq.trans rfl rfl
def kG2 (s : Sl) (P : List Sl × Ev → Prop) : List Sl × Ev → Prop := fun xs => P (s :: xs.1, xs.2)
theorem kG2_ap : kG2 s PG (ss, env) = PG (s :: ss, env) := Eq.trans rfl rfl
def kG1 (r : MG) (P : List Sl × Ev → Prop) : PyData × Ev → Prop := fun x => WP (r x.2) (kG2 (.imm x.1) P)
theorem kG1_ap (r : MG) : kG1 r PG (d, env) = WP (r env) (kG2 (.imm d) PG) := Eq.trans rfl rfl
def kCall (n : Nat) (fs : FS) (P : Sl × Ev → Prop) : List Sl × Ev → Prop := fun x => x.1.length = n ∧ WP (fs x.1) (kR x.2 P)
theorem kCall_ap (fs : FS) : kCall n fs P (ss, env) = (ss.length = n ∧ WP (fs ss) (kR env P)) := Eq.trans rfl rfl
def kSeq (m : MS) (P : Fl × Ev → Prop) : Fl × Ev → Prop := fun x => match x.1 with
  | .nx => WP (m x.2) P
  | f => P (f, x.2)
theorem kSeq_nx (m : MS) : kSeq m PS (.nx, env) = WP (m env) PS := Eq.trans rfl rfl
theorem kSeq_rt (m : MS) : kSeq m PS (.rt s, env) = PS (.rt s, env) := Eq.trans rfl rfl
theorem kSeq_bk (m : MS) : kSeq m PS (.bk, env) = PS (.bk, env) := Eq.trans rfl rfl
theorem kSeq_ct (m : MS) : kSeq m PS (.ct, env) = PS (.ct, env) := Eq.trans rfl rfl
def kSet (i : Nat) (P : Fl × Ev → Prop) : Sl × Ev → Prop := fun x => P (.nx, x.2.set i (some x.1))
theorem kSet_ap : kSet i PS (s, env) = PS (.nx, env.set i (some s)) := Eq.trans rfl rfl
def kDrop (P : Fl × Ev → Prop) : Sl × Ev → Prop := fun x => P (.nx, x.2)
theorem kDrop_ap : kDrop PS (s, env) = PS (.nx, env) := Eq.trans rfl rfl
def kRt (P : Fl × Ev → Prop) : Sl × Ev → Prop := fun x => P (.rt x.1, x.2)
theorem kRt_ap : kRt PS (s, env) = PS (.rt s, env) := Eq.trans rfl rfl
def kNxE (P : Fl × Ev → Prop) : Ev → Prop := fun env => P (.nx, env)
theorem kNxE_ap : kNxE PS env = PS (.nx, env) := Eq.trans rfl rfl
def kAsg (g : MTg) (P : Fl × Ev → Prop) : Sl × Ev → Prop := fun x => WP (g x.1 x.2) (kNxE P)
theorem kAsg_ap (g : MTg) : kAsg g PS (s, env) = WP (g s env) (kNxE PS) := Eq.trans rfl rfl
def kFor (g : MTg) (m : MS) (P : Fl × Ev → Prop) : List PyData × Ev → Prop := fun x => WP (forD g m x.1 x.2) P
theorem kFor_ap (g : MTg) (m : MS) : kFor g m PS (ds, env) = WP (forD g m ds env) PS := Eq.trans rfl rfl
/-- after a turn: J is what is to hold ahead of the next one -/
def kTurn (J : Ev → Prop) (P : Fl × Ev → Prop) : Fl × Ev → Prop := fun x => match x.1 with
  | .nx => J x.2
  | .ct => J x.2
  | .bk => P (.nx, x.2)
  | .rt s => P (.rt s, x.2)
theorem kTurn_nx (J : Ev → Prop) : kTurn J PS (.nx, env) = J env := Eq.trans rfl rfl
theorem kTurn_ct (J : Ev → Prop) : kTurn J PS (.ct, env) = J env := Eq.trans rfl rfl
theorem kTurn_bk (J : Ev → Prop) : kTurn J PS (.bk, env) = PS (.nx, env) := Eq.trans rfl rfl
theorem kTurn_rt (J : Ev → Prop) : kTurn J PS (.rt s, env) = PS (.rt s, env) := Eq.trans rfl rfl
def kBody (m : MS) (J : Ev → Prop) (P : Fl × Ev → Prop) : Ev → Prop := fun env => WP (m env) (kTurn J P)
theorem kBody_ap (m : MS) (J : Ev → Prop) : kBody m J PS env = WP (m env) (kTurn J PS) := Eq.trans rfl rfl
def kWh (m : MS) (J : Ev → Prop) (P : Fl × Ev → Prop) : Bool × Ev → Prop := fun x => if x.1 = true then WP (m x.2) (kTurn J P) else P (.nx, x.2)
theorem kWh_ap (m : MS) (J : Ev → Prop) : kWh m J PS (b, env) = if b = true then WP (m env) (kTurn J PS) else PS (.nx, env) := Eq.trans rfl rfl
def kPar2 (i j : Nat) (s : Sl) (P : Fl × Ev → Prop) : Sl × Ev → Prop := fun y => i < y.2.length ∧ P (.nx, (y.2.set i (some s)).set j (some y.1))
theorem kPar2_ap (s' : Sl) : kPar2 i j s PS (s', env) = (i < env.length ∧ PS (.nx, (env.set i (some s)).set j (some s'))) := Eq.trans rfl rfl
def kPar1 (i j : Nat) (mb : ME) (P : Fl × Ev → Prop) : Sl × Ev → Prop := fun x => WP (mb x.2) (kPar2 i j x.1 P)
theorem kPar1_ap (mb : ME) : kPar1 i j mb PS (s, env) = WP (mb env) (kPar2 i j s PS) := Eq.trans rfl rfl
def kP3c (i j l : Nat) (d e : PyData) (P : Fl × Ev → Prop) : PyData × Ev → Prop := fun z => P (.nx, ((z.2.set i (some (.imm d))).set j (some (.imm e))).set l (some (.imm z.1)))
theorem kP3c_ap (z : PyData) : kP3c i j l d e PS (z, env) = PS (.nx, ((env.set i (some (.imm d))).set j (some (.imm e))).set l (some (.imm z))) := Eq.trans rfl rfl
def kP3b (i j l : Nat) (mc : MI) (d : PyData) (P : Fl × Ev → Prop) : PyData × Ev → Prop := fun y => WP (mc y.2) (kP3c i j l d y.1 P)
theorem kP3b_ap (mc : MI) : kP3b i j l mc d PS (e, env) = WP (mc env) (kP3c i j l d e PS) := Eq.trans rfl rfl
def kP3a (i j l : Nat) (mb mc : MI) (P : Fl × Ev → Prop) : PyData × Ev → Prop := fun x => WP (mb x.2) (kP3b i j l mc x.1 P)
theorem kP3a_ap (mb mc : MI) : kP3a i j l mb mc PS (d, env) = WP (mb env) (kP3b i j l mc d PS) := Eq.trans rfl rfl
def kRg1 (P : List PyData × Ev → Prop) : PyData × Ev → Prop := fun x => match x.1 with
  | .int j => (-1000000000 ≤ j ∧ j ≤ 1000000000) ∧ P (rangeD 0 j, x.2)
  | _ => False
theorem kRg1_ap (z : Int) : kRg1 PM (.int z, env) = ((-1000000000 ≤ z ∧ z ≤ 1000000000) ∧ PM (rangeD 0 z, env)) := Eq.trans rfl rfl
def kRg2b (d : PyData) (P : List PyData × Ev → Prop) : PyData × Ev → Prop := fun y => match d, y.1 with
  | .int i, .int j => (-1000000000 ≤ i ∧ i ≤ 1000000000 ∧ -1000000000 ≤ j ∧ j ≤ 1000000000) ∧ P (rangeD i j, y.2)
  | _, _ => False
theorem kRg2b_ap (z y : Int) : kRg2b (.int z) PM (.int y, env) = ((-1000000000 ≤ z ∧ z ≤ 1000000000 ∧ -1000000000 ≤ y ∧ y ≤ 1000000000) ∧ PM (rangeD z y, env)) := Eq.trans rfl rfl
def kRg2 (b : MI) (P : List PyData × Ev → Prop) : PyData × Ev → Prop := fun x => WP (b x.2) (kRg2b x.1 P)
theorem kRg2_ap (b : MI) : kRg2 b PM (d, env) = WP (b env) (kRg2b d PM) := Eq.trans rfl rfl
def kSq (P : List PyData × Ev → Prop) : PyData × Ev → Prop := fun x => WP (seq? x.1) (kR x.2 P)
theorem kSq_list : kSq PM (.list ds, env) = PM (ds, env) := wp_ret ..
theorem kSq_tuple : kSq PM (.tuple ds, env) = PM (ds, env) := wp_ret ..
def kEnum (P : List PyData × Ev → Prop) : List PyData × Ev → Prop := fun x => P (enumFrom 0 x.1, x.2)
theorem kEnum_ap : kEnum PM (ds, env) = PM (enumFrom 0 ds, env) := Eq.trans rfl rfl
def kZip2 (d : PyData) (P : List PyData × Ev → Prop) : PyData × Ev → Prop := fun y => match d, y.1 with
  | .list ds, .list es => P (zipP ds es, y.2)
  | _, _ => False
theorem kZip2_ll : kZip2 (.list ds) PM (.list es, env) = PM (zipP ds es, env) := Eq.trans rfl rfl
def kZip1 (b : MI) (P : List PyData × Ev → Prop) : PyData × Ev → Prop := fun x => WP (b x.2) (kZip2 x.1 P)
theorem kZip1_ap (b : MI) : kZip1 b PM (d, env) = WP (b env) (kZip2 d PM) := Eq.trans rfl rfl
def kLcE (env0 : Ev) (is : List Nat) (P : Sl × Ev → Prop) : List PyData × Ev → Prop := fun r => P (.lst r.1, restoreE env0 is r.2)
theorem kLcE_ap (env0 : Ev) (is : List Nat) : kLcE env0 is P (ds, env) = P (.lst ds, restoreE env0 is env) := Eq.trans rfl rfl
def kLc (one : Bool) (is : List Nat) (tt : MT) (te : MI) (P : Sl × Ev → Prop) : List PyData × Ev → Prop := fun x => x.1.length ≤ 1000000 ∧ WP (lcD one is tt te x.1 (wipeE is x.2)) (kLcE x.2 is P)
theorem kLc_ap (one : Bool) (is : List Nat) (tt : MT) (te : MI) : kLc one is tt te P (ds, env) = (ds.length ≤ 1000000 ∧ WP (lcD one is tt te ds (wipeE is env)) (kLcE env is P)) := Eq.trans rfl rfl
/-- a turn of a comprehension -/
def kLt3 (is : List Nat) (J : List PyData → Ev → Prop) : PyData × Ev → Prop := fun y => J [y.1] (wipeE is y.2)
theorem kLt3_ap (is : List Nat) (J : List PyData → Ev → Prop) : kLt3 is J (d, env) = J [d] (wipeE is env) := Eq.trans rfl rfl
def kLt2 (is : List Nat) (te : MI) (J : List PyData → Ev → Prop) : Bool × Ev → Prop := fun x => if x.1 = true then WP (te x.2) (kLt3 is J) else J [] (wipeE is x.2)
theorem kLt2_ap (is : List Nat) (te : MI) (J : List PyData → Ev → Prop) : kLt2 is te J (b, env) = if b = true then WP (te env) (kLt3 is J) else J [] (wipeE is env) := Eq.trans rfl rfl
def kLt1 (is : List Nat) (tt : MT) (te : MI) (J : List PyData → Ev → Prop) : Ev → Prop := fun env => WP (tt env) (kLt2 is te J)
theorem kLt1_ap (is : List Nat) (tt : MT) (te : MI) (J : List PyData → Ev → Prop) : kLt1 is tt te J env = WP (tt env) (kLt2 is te J) := Eq.trans rfl rfl
def kRun (P : Sl → Prop) : Fl × Ev → Prop := fun x => match x.1 with
  | .nx => P (.imm .none)
  | .rt s => P s
  | _ => False
theorem kRun_nx : kRun Ps (.nx, env) = Ps (.imm .none) := Eq.trans rfl rfl
theorem kRun_rt : kRun Ps (.rt s, env) = Ps s := Eq.trans rfl rfl
def kTg (g : MTg) (P : Ev → Prop) : Ev → Prop := fun env => P env

/-! ### slots -/
def vP (o : Option (Option Sl)) (i : Nat) (env : Ev) (P : PyData × Ev → Prop) : Prop := match o with
  | some (some (.imm d)) => P (d, env)
  | some (some (.lst ds)) => P (.list ds, env.set i (some (.imm (.list ds))))
  | some (some (.ft ds)) => P (.tuple ds, env)
  | _ => False
theorem vP_imm : vP (some (some (.imm d))) i env PI = PI (d, env) := Eq.trans rfl rfl
theorem vP_lst : vP (some (some (.lst ds))) i env PI = PI (.list ds, env.set i (some (.imm (.list ds)))) := Eq.trans rfl rfl
theorem vP_ft : vP (some (some (.ft ds))) i env PI = PI (.tuple ds, env) := Eq.trans rfl rfl
theorem wp_var : WP (mVar i env) PI = vP env[i]? i env PI := by
  unfold mVar vP
  generalize env[i]? = o
  rcases o with _ | _ | s
  · exact wp_bad _
  · exact wp_bad _
  · cases s <;> first | exact wp_ret .. | exact wp_bad _
def pP (o : Option (Option Sl)) (env : Ev) (P : PyData × Ev → Prop) : Prop := match o with
  | some (some (.imm d)) => P (d, env)
  | some (some (.lst ds)) => P (.list ds, env)
  | some (some (.ft ds)) => P (.tuple ds, env)
  | _ => False
theorem pP_imm : pP (some (some (.imm d))) env PI = PI (d, env) := Eq.trans rfl rfl
theorem pP_lst : pP (some (some (.lst ds))) env PI = PI (.list ds, env) := Eq.trans rfl rfl
theorem pP_ft : pP (some (some (.ft ds))) env PI = PI (.tuple ds, env) := Eq.trans rfl rfl
theorem wp_peek : WP (mPeek i env) PI = pP env[i]? env PI := by
  unfold mPeek pP
  generalize env[i]? = o
  rcases o with _ | _ | s
  · exact wp_bad _
  · exact wp_bad _
  · cases s <;> first | exact wp_ret .. | exact wp_bad _
def moP (o : Option (Option Sl)) (i : Nat) (env : Ev) (P : Sl × Ev → Prop) : Prop := match o with
  | some (some s) => P (s, env.set i none)
  | _ => False
theorem moP_ap : moP (some (some s)) i env P = P (s, env.set i none) := Eq.trans rfl rfl
theorem wp_move : WP (mMove i env) P = moP env[i]? i env P := by
  unfold mMove moP
  generalize env[i]? = o
  rcases o with _ | _ | s
  · exact wp_bad _
  · exact wp_bad _
  · cases s <;> first | exact wp_ret .. | exact wp_bad _
def lkP (o : Option (Option Sl)) (env : Ev) (P : Sl × Ev → Prop) : Prop := match o with
  | some (some (.imm d)) => P (.imm d, env)
  | some (some (.ft d)) => P (.ft d, env)
  | _ => False
theorem lkP_imm : lkP (some (some (.imm d))) env P = P (.imm d, env) := Eq.trans rfl rfl
theorem lkP_ft : lkP (some (some (.ft ds))) env P = P (.ft ds, env) := Eq.trans rfl rfl
theorem wp_look : WP (mLook i env) P = lkP env[i]? env P := by
  unfold mLook lkP
  generalize env[i]? = o
  rcases o with _ | _ | s
  · exact wp_bad _
  · exact wp_bad _
  · cases s <;> first | exact wp_ret .. | exact wp_bad _
def gsP (o : Option (Option Sl)) (env : Ev) (r : MG) (P : List Sl × Ev → Prop) : Prop := match o with
  | some (some .src) => WP (r env) (kG2 .src P)
  | some (some (.fT kvs)) => WP (r env) (kG2 (.fT kvs) P)
  | some (some (.fK kvs)) => WP (r env) (kG2 (.fK kvs) P)
  | some (some (.ft kvs)) => WP (r env) (kG2 (.ft kvs) P)
  | some (some (.imm d)) => WP (r env) (kG2 (.imm d) P)
  | _ => False
theorem gsP_src (r : MG) : gsP (some (some .src)) env r PG = WP (r env) (kG2 .src PG) := Eq.trans rfl rfl
theorem gsP_fT (r : MG) (kvs : KD) : gsP (some (some (.fT kvs))) env r PG = WP (r env) (kG2 (.fT kvs) PG) := Eq.trans rfl rfl
theorem gsP_ft (r : MG) : gsP (some (some (.ft ds))) env r PG = WP (r env) (kG2 (.ft ds) PG) := Eq.trans rfl rfl
theorem gsP_imm (r : MG) : gsP (some (some (.imm d))) env r PG = WP (r env) (kG2 (.imm d) PG) := Eq.trans rfl rfl
theorem wp_gSrc (r : MG) : WP (gSrc i r env) PG = gsP env[i]? env r PG := by
  unfold gSrc gsP
  generalize env[i]? = o
  rcases o with _ | _ | s
  · exact wp_bad _
  · exact wp_bad _
  · cases s <;> first | exact wp_bad _ | (simp only [wp_bind, wp_ret]; rfl)
def gnP (o : Option (Option Sl)) (i : Nat) (env : Ev) (r : MG) (P : List Sl × Ev → Prop) : Prop := match o with
  | some (some (.imm d)) => WP (r env) (kG2 (.imm d) P)
  | some (some (.ft d)) => WP (r env) (kG2 (.ft d) P)
  | some (some (.lst ds)) => WP (r (env.set i (some (.imm (.list ds))))) (kG2 (.imm (.list ds)) P)
  | _ => False
theorem gnP_imm (r : MG) : gnP (some (some (.imm d))) i env r PG = WP (r env) (kG2 (.imm d) PG) := Eq.trans rfl rfl
theorem gnP_ft (r : MG) : gnP (some (some (.ft ds))) i env r PG = WP (r env) (kG2 (.ft ds) PG) := Eq.trans rfl rfl
theorem gnP_lst (r : MG) : gnP (some (some (.lst ds))) i env r PG = WP (r (env.set i (some (.imm (.list ds))))) (kG2 (.imm (.list ds)) PG) := Eq.trans rfl rfl
theorem wp_gNm (r : MG) : WP (gNm i r env) PG = gnP env[i]? i env r PG := by
  unfold gNm gnP
  generalize env[i]? = o
  rcases o with _ | _ | s
  · exact wp_bad _
  · exact wp_bad _
  · cases s <;> first | exact wp_bad _ | (simp only [wp_bind, wp_ret]; rfl)
def gfP (o : Option (Option Sl)) (i : Nat) (env : Ev) (r : MG) (P : List Sl × Ev → Prop) : Prop := match o with
  | some (some (.dT kvs)) => WP (r (env.set i (some (.fT kvs)))) (kG2 (.fT kvs) P)
  | some (some (.fT kvs)) => WP (r env) (kG2 (.fT kvs) P)
  | _ => False
theorem gfP_dT (r : MG) (kvs : KD) : gfP (some (some (.dT kvs))) i env r PG = WP (r (env.set i (some (.fT kvs)))) (kG2 (.fT kvs) PG) := Eq.trans rfl rfl
theorem gfP_fT (r : MG) (kvs : KD) : gfP (some (some (.fT kvs))) i env r PG = WP (r env) (kG2 (.fT kvs) PG) := Eq.trans rfl rfl
theorem wp_gFrz (r : MG) : WP (gFrz i r env) PG = gfP env[i]? i env r PG := by
  unfold gFrz gfP
  generalize env[i]? = o
  rcases o with _ | _ | s
  · exact wp_bad _
  · exact wp_bad _
  · cases s <;> first | exact wp_bad _ | (simp only [wp_bind, wp_ret]; rfl)
def kGt (r : MG) (P : List Sl × Ev → Prop) : Sl × Ev → Prop := fun x => match x.1 with
  | .dT kvs => WP (r x.2) (kG2 (.fT kvs) P)
  | .imm d => WP (r x.2) (kG2 (.imm d) P)
  | .ft d => WP (r x.2) (kG2 (.ft d) P)
  | _ => False
theorem kGt_dT (r : MG) (kvs : KD) : kGt r PG (.dT kvs, env) = WP (r env) (kG2 (.fT kvs) PG) := Eq.trans rfl rfl
theorem kGt_imm (r : MG) : kGt r PG (.imm d, env) = WP (r env) (kG2 (.imm d) PG) := Eq.trans rfl rfl
theorem kGt_ft (r : MG) : kGt r PG (.ft ds, env) = WP (r env) (kG2 (.ft ds) PG) := Eq.trans rfl rfl
theorem wp_gTmp (m : ME) (r : MG) : WP (gTmp m r env) PG = WP (m env) (kGt r PG) := by
  unfold gTmp
  rw [wp_bind]
  refine congrArg (WP (m env)) (funext fun x => ?_)
  unfold kGt
  obtain ⟨x1, x2⟩ := x
  cases x1 <;> first | rfl | exact wp_bad _ | exact wp_ret .. | (simp only [wp_ret, wp_bad, wp_bind, wp_ok, wp_if]; done) | (simp only [wp_bind, wp_ret, wp_bad, wp_ok]; rfl)

/-! ### expressions -/
theorem wp_C : WP (mC d env) PI = PI (d, env) := wp_ret ..
theorem wp_E (m : MI) : WP (mE m env) P = WP (m env) (kE P) := by unfold mE; simp only [wp_bind, wp_ret]; rfl
theorem wp_I (m : ME) : WP (mI m env) PI = WP (m env) (kI PI) := by unfold mI; simp only [wp_bind, wp_ret]; rfl
theorem wp_1 (f : PyData → Tr Sl) (m : MI) : WP (m1 f m env) P = WP (m env) (k1 f P) := by unfold m1; simp only [wp_bind, wp_ret]; rfl
theorem wp_2 (f : PyData → PyData → Tr Sl) (ma mb : MI) : WP (m2 f ma mb env) P = WP (ma env) (k2 f mb P) := by unfold m2; simp only [wp_bind, wp_ret]; rfl
theorem wp_2s (f : PyData → PyData → Tr Sl) (ma mb : MI) : WP (m2s f ma mb env) P = WP (ma env) (k2s f mb P) := by
  unfold m2s
  rw [wp_bind]
  refine congrArg (WP (ma env)) (funext fun x => ?_)
  unfold k2s
  obtain ⟨x1, x2⟩ := x
  cases x1 <;> first | rfl | exact wp_bad _ | exact wp_ret .. | (simp only [wp_ret, wp_bad, wp_bind, wp_ok, wp_if]; done) | (simp only [wp_bind, wp_ret, wp_bad, wp_ok]; rfl)
theorem wp_3 (f : PyData → Option Int → Option Int → Tr Sl) (m : MI) (ml mh : MO) : WP (m3 f m ml mh env) P = WP (m env) (k3 f ml mh P) := by unfold m3; simp only [wp_bind, wp_ret]; rfl
theorem wp_oN : WP (oNone env) PO = PO (none, env) := wp_ret ..
theorem wp_oS (m : MI) : WP (oSome m env) PO = WP (m env) (kOI PO) := by
  unfold oSome
  rw [wp_bind]
  refine congrArg (WP (m env)) (funext fun x => ?_)
  unfold kOI int?
  obtain ⟨x1, x2⟩ := x
  cases x1 <;> first | rfl | exact wp_bad _ | exact wp_ret .. | (simp only [wp_ret, wp_bad, wp_bind, wp_ok, wp_if]; done) | (simp only [wp_bind, wp_ret, wp_bad, wp_ok]; rfl)
theorem wp_T (m : MI) : WP (mT m env) PB = WP (m env) (kT PB) := by
  unfold mT
  rw [wp_bind]
  refine congrArg (WP (m env)) (funext fun x => ?_)
  unfold kT bool?
  obtain ⟨x1, x2⟩ := x
  cases x1 <;> first | rfl | exact wp_bad _ | exact wp_ret .. | (simp only [wp_ret, wp_bad, wp_bind, wp_ok, wp_if]; done) | (simp only [wp_bind, wp_ret, wp_bad, wp_ok]; rfl)
theorem wp_and (a c : MT) : WP (tAnd a c env) PB = WP (a env) (kAnd c PB) := by
  unfold PV.tAnd
  rw [wp_bind]
  refine congrArg (WP (a env)) (funext fun x => ?_)
  unfold kAnd
  obtain ⟨x1, x2⟩ := x
  cases x1 <;> first | rfl | exact wp_bad _ | exact wp_ret .. | (simp only [wp_ret, wp_bad, wp_bind, wp_ok, wp_if]; done) | (simp only [wp_bind, wp_ret, wp_bad, wp_ok]; rfl)
theorem wp_or (a c : MT) : WP (tOr a c env) PB = WP (a env) (kOr c PB) := by
  unfold PV.tOr
  rw [wp_bind]
  refine congrArg (WP (a env)) (funext fun x => ?_)
  unfold kOr
  obtain ⟨x1, x2⟩ := x
  cases x1 <;> first | rfl | exact wp_bad _ | exact wp_ret .. | (simp only [wp_ret, wp_bad, wp_bind, wp_ok, wp_if]; done) | (simp only [wp_bind, wp_ret, wp_bad, wp_ok]; rfl)
theorem wp_not (a : MT) : WP (tNot a env) PB = WP (a env) (kNot PB) := by unfold PV.tNot; simp only [wp_bind, wp_ret]; rfl
theorem wp_yes : WP (tYes' env) PB = PB (true, env) := wp_ret ..
theorem wp_mIf (c : MT) (a e : ME) : WP (mIf c a e env) P = WP (c env) (kIf a e P) := by
  unfold mIf
  rw [wp_bind]
  refine congrArg (WP (c env)) (funext fun x => ?_)
  unfold kIf
  split <;> rfl
theorem wp_vAnd (a c : MI) : WP (vAnd a c env) PI = WP (a env) (kVA c PI) := by
  unfold vAnd
  rw [wp_bind]
  refine congrArg (WP (a env)) (funext fun x => ?_)
  unfold kVA bool?
  obtain ⟨x1, x2⟩ := x
  cases x1 <;> first | rfl | exact wp_bad _ | exact wp_ret .. | (simp only [wp_ret, wp_bad, wp_bind, wp_ok, wp_if]; done) | (simp only [wp_bind, wp_ret, wp_bad, wp_ok]; rfl)
theorem wp_vOr (a c : MI) : WP (vOr a c env) PI = WP (a env) (kVO c PI) := by
  unfold vOr
  rw [wp_bind]
  refine congrArg (WP (a env)) (funext fun x => ?_)
  unfold kVO bool?
  obtain ⟨x1, x2⟩ := x
  cases x1 <;> first | rfl | exact wp_bad _ | exact wp_ret .. | (simp only [wp_ret, wp_bad, wp_bind, wp_ok, wp_if]; done) | (simp only [wp_bind, wp_ret, wp_bad, wp_ok]; rfl)
theorem wp_vNot (a : MI) : WP (vNot a env) PI = WP (a env) (kVN PI) := by
  unfold vNot
  rw [wp_bind]
  refine congrArg (WP (a env)) (funext fun x => ?_)
  unfold kVN bool?
  obtain ⟨x1, x2⟩ := x
  cases x1 <;> first | rfl | exact wp_bad _ | exact wp_ret .. | (simp only [wp_ret, wp_bad, wp_bind, wp_ok, wp_if]; done) | (simp only [wp_bind, wp_ret, wp_bad, wp_ok]; rfl)
theorem wp_aNil : WP (aNil env) PM = PM ([], env) := wp_ret ..
theorem wp_aCons (a : MI) (r : MA) : WP (aCons a r env) PM = WP (a env) (kC1 r PM) := by unfold aCons; simp only [wp_bind, wp_ret]; rfl
theorem wp_tup (a : MA) : WP (mTup a env) P = WP (a env) (kTup P) := by unfold mTup; simp only [wp_bind, wp_ret, wp_ok]; rfl
theorem wp_lst (a : MA) : WP (mLst a env) P = WP (a env) (kLst P) := by unfold mLst; simp only [wp_bind, wp_ret, wp_ok]; rfl
theorem wp_A (g : List PyData → Tr Sl) (a : MA) : WP (mA g a env) P = WP (a env) (kA g P) := by unfold mA; simp only [wp_bind, wp_ret]; rfl
theorem wp_tupRg (a : MW) : WP (mTupRg a env) P = WP (a env) (kTup P) := by unfold mTupRg; simp only [wp_bind, wp_ret, wp_ok]; rfl
theorem wp_lstRg (a : MW) : WP (mLstRg a env) P = WP (a env) (kLst P) := by unfold mLstRg; simp only [wp_bind, wp_ret, wp_ok]; rfl
theorem wp_gNil : WP (gNil' env) PG = PG ([], env) := wp_ret ..
theorem wp_gCons (a : MI) (r : MG) : WP (gCons' a r env) PG = WP (a env) (kG1 r PG) := by unfold gCons'; simp only [wp_bind, wp_ret]; rfl
theorem wp_call (fs : FS) (m : MG) : WP (mCall n fs m env) P = WP (m env) (kCall n fs P) := by unfold mCall; simp only [wp_bind, wp_ret, wp_ok]; rfl
theorem wp_lc (mw : MW) (one : Bool) (is : List Nat) (tt : MT) (te : MI) : WP (mLc mw one is tt te env) P = WP (mw env) (kLc one is tt te P) := by unfold mLc; simp only [wp_bind, wp_ret, wp_ok]; rfl
theorem wp_wSeq (m : MI) : WP (wSeq m env) PM = WP (m env) (kSq PM) := by unfold wSeq; simp only [wp_bind, wp_ret]; rfl
theorem wp_wEnum (m : MI) : WP (wEnum m env) PM = WP (m env) (kSq (kEnum PM)) := by unfold wEnum; simp only [wp_bind, wp_ret]; rfl
theorem wp_wZip (a c : MI) : WP (wZip a c env) PM = WP (a env) (kZip1 c PM) := by
  unfold wZip
  simp only [wp_bind]
  refine congrArg (WP (a env)) (funext fun x => ?_)
  refine congrArg (WP (c x.2)) (funext fun y => ?_)
  unfold kZip2
  obtain ⟨x1, x2⟩ := x
  obtain ⟨y1, y2⟩ := y
  cases x1 <;> cases y1 <;> first | exact wp_bad _ | exact wp_ret ..
theorem wp_wRange1 (a : MI) : WP (wRange1 a env) PM = WP (a env) (kRg1 PM) := by
  unfold wRange1
  rw [wp_bind]
  refine congrArg (WP (a env)) (funext fun x => ?_)
  unfold kRg1 int?
  obtain ⟨x1, x2⟩ := x
  cases x1 <;> first | rfl | exact wp_bad _ | exact wp_ret .. | (simp only [wp_ret, wp_bad, wp_bind, wp_ok, wp_if]; done) | (simp only [wp_bind, wp_ret, wp_bad, wp_ok]; rfl)
theorem wp_wRange2 (a c : MI) : WP (wRange2 a c env) PM = WP (a env) (kRg2 c PM) := by
  unfold wRange2
  simp only [wp_bind]
  refine congrArg (WP (a env)) (funext fun x => ?_)
  refine congrArg (WP (c x.2)) (funext fun y => ?_)
  unfold kRg2b int?
  obtain ⟨x1, x2⟩ := x
  obtain ⟨y1, y2⟩ := y
  cases x1 <;> cases y1 <;> simp only [wp_ret, wp_bad, wp_ok]

/-! ### statements -/
theorem wp_sNx : WP (sNx env) PS = PS (.nx, env) := wp_ret ..
theorem wp_sBk : WP (sBk env) PS = PS (.bk, env) := wp_ret ..
theorem wp_sCt : WP (sCt env) PS = PS (.ct, env) := wp_ret ..
theorem wp_sRetN : WP (sRetN env) PS = PS (.rt (.imm .none), env) := wp_ret ..
theorem wp_seq (a c : MS) : WP (sSeq a c env) PS = WP (a env) (kSeq c PS) := by
  unfold sSeq
  rw [wp_bind]
  refine congrArg (WP (a env)) (funext fun x => ?_)
  unfold kSeq
  obtain ⟨x1, x2⟩ := x
  cases x1 <;> simp only [wp_ret]
theorem wp_set (m : ME) : WP (sSet i m env) PS = WP (m env) (kSet i PS) := by unfold sSet; simp only [wp_bind, wp_ret]; rfl
theorem wp_drop (m : ME) : WP (sDrop m env) PS = WP (m env) (kDrop PS) := by unfold sDrop; simp only [wp_bind, wp_ret]; rfl
theorem wp_sRet (m : ME) : WP (sRet m env) PS = WP (m env) (kRt PS) := by unfold sRet; simp only [wp_bind, wp_ret]; rfl
theorem wp_sIf (c : MT) (a e : MS) : WP (sIf c a e env) PS = WP (c env) (kIf a e PS) := by
  unfold sIf
  rw [wp_bind]
  refine congrArg (WP (c env)) (funext fun x => ?_)
  unfold kIf
  split <;> rfl
theorem wp_asg (m : ME) (g : MTg) : WP (sAsg m g env) PS = WP (m env) (kAsg g PS) := by unfold sAsg; simp only [wp_bind, wp_ret]; rfl
theorem wp_tgName : WP (tgName i s env) PT = PT (env.set i (some s)) := wp_ret ..
theorem wp_tgTup (is : List Nat) : WP (tgTup is (.imm (.tuple ds)) env) PT = WP (tgAll is ds env) PT := Eq.trans rfl rfl
theorem wp_tgAll0 : WP (tgAll [] [] env) PT = PT env := wp_ret ..
theorem wp_tgAll1 (is : List Nat) : WP (tgAll (i :: is) (d :: ds) env) PT = WP (tgAll is ds (env.set i (some (.imm d)))) PT := Eq.trans rfl rfl
theorem wp_tgN1 : WP (tgNames true [i] d env) PT = PT (env.set i (some (.imm d))) := wp_ret ..
theorem wp_tgNs (is : List Nat) : WP (tgNames false is (.tuple ds) env) PT = WP (tgAll is ds env) PT := Eq.trans rfl rfl
theorem wp_tgG (gs : List MTg) : WP (tgTupG gs (.imm (.tuple ds)) env) PT = (ds.length = gs.length ∧ WP (tgSeq gs ds env) PT) := by
  show WP (ok _ _) _ = _
  rw [wp_ok]
theorem wp_tgS0 : WP (tgSeq [] [] env) PT = PT env := wp_ret ..
def kTgS (gs : List MTg) (ds : List PyData) (P : Ev → Prop) : Ev → Prop := fun env => WP (tgSeq gs ds env) P
theorem kTgS_ap (gs : List MTg) : kTgS gs ds PT env = WP (tgSeq gs ds env) PT := Eq.trans rfl rfl
theorem wp_tgS1 (g : MTg) (gs : List MTg) : WP (tgSeq (g :: gs) (d :: ds) env) PT = WP (g (.imm d) env) (kTgS gs ds PT) := by
  show WP (Tr.bind _ _) _ = _
  rw [wp_bind]
  rfl
theorem wp_sFor (m : MW) (g : MTg) (body : MS) : WP (sFor m g body env) PS = WP (m env) (kFor g body PS) := by unfold sFor; simp only [wp_bind]; rfl
theorem wp_par (ma mb : ME) : WP (sPar i j ma mb env) PS = (i < env.length ∧ WP (ma env) (kPar1 i j mb PS)) := by unfold sPar; simp only [wp_bind, wp_ret, wp_ok]; rfl
theorem wp_par3 (ma mb mc : MI) : WP (sPar3 i j l ma mb mc env) PS = WP (ma env) (kP3a i j l mb mc PS) := by unfold sPar3; simp only [wp_bind, wp_ret]; rfl
theorem wp_run (m : MS) : WP (PV.run n m ss) Ps = WP (m (ss.map some ++ List.replicate (n - ss.length) none)) (kRun Ps) := by
  unfold PV.run
  rw [wp_bind]
  refine congrArg (WP _) (funext fun x => ?_)
  unfold kRun
  obtain ⟨x1, x2⟩ := x
  cases x1 <;> simp only [wp_ret, wp_bad]

/-! ### lists that change -/
def ix2P (o : Option (Option Sl)) (j : Nat) (d : PyData) (k : Int) (env : Ev) (P : Ev → Prop) : Prop := match o with
  | some (some (.lst ds)) => match ixN ds.length k with
    | some n => P (env.set j (some (.lst (ds.set n d))))
    | none => False
  | _ => False
theorem ix2P_ap (k : Int) (hk : 0 ≤ k) (hl : k < (ds.length : Int)) : ix2P (some (some (.lst ds))) j d k env PT = PT (env.set j (some (.lst (ds.set k.toNat d)))) := by
  have e : ixN ds.length k = some k.toNat := by unfold ixN; rw [if_pos hk, if_pos hl]
  unfold ix2P
  simp only [e]
def kIx (j : Nat) (d : PyData) (P : Ev → Prop) : PyData × Ev → Prop := fun x => match x.1 with
  | .int k => ix2P x.2[j]? j d k x.2 P
  | _ => False
theorem kIx_ap (k : Int) : kIx j d PT (.int k, env) = ix2P env[j]? j d k env PT := Eq.trans rfl rfl
def isLst : Option (Option Sl) → Bool
  | some (some (.lst _)) => true
  | _ => false
theorem isLst_ap : isLst (some (some (.lst ds))) = true := Eq.trans rfl rfl
theorem wp_tgIx (mi : MI) : WP (tgIx j mi s env) PT = slP s fun d => isLst env[j]? = true ∧ WP (mi env) (kIx j d PT) := by
  unfold tgIx
  rw [wp_bind]
  unfold slP
  refine congrArg (WP _) (funext fun d => ?_)
  split
  · rename_i ds h
    rw [h]
    simp only [isLst, true_and, wp_bind]
    refine congrArg (WP _) (funext fun x => ?_)
    unfold kIx int? ix2P
    obtain ⟨x1, x2⟩ := x
    cases x1 <;> simp only [wp_ret, wp_bad]
    split
    · rename_i ds' h'
      try rw [h']
      try dsimp only
      split
      · rename_i h2; (try rw [h2]); simp only [wp_ret]
      · rename_i h2; (try rw [h2]); simp only [wp_bad]
    · rename_i h'
      simp only [wp_bad]
  · rename_i h
    simp only [wp_bad]
    refine propext ⟨fun f => f.elim, fun ⟨f, _⟩ => ?_⟩
    unfold isLst at f
    split at f
    · rename_i ds h2; exact absurd h2 (h ds)
    · cases f
def apP (o : Option (Option Sl)) (i : Nat) (d : PyData) (env : Ev) (P : Sl × Ev → Prop) : Prop := match o with
  | some (some (.lst ds)) => ds.length < 1000000 ∧ P (.imm .none, env.set i (some (.lst (ds ++ [d]))))
  | _ => False
theorem apP_ap : apP (some (some (.lst ds))) i d env P = (ds.length < 1000000 ∧ P (.imm .none, env.set i (some (.lst (ds ++ [d]))))) := Eq.trans rfl rfl
def kAp (i : Nat) (P : Sl × Ev → Prop) : PyData × Ev → Prop := fun x => apP x.2[i]? i x.1 x.2 P
theorem kAp_ap : kAp i P (d, env) = apP env[i]? i d env P := Eq.trans rfl rfl
theorem wp_append (m : MI) : WP (mAppend i m env) P = (isLst env[i]? = true ∧ WP (m env) (kAp i P)) := by
  unfold mAppend
  split
  · rename_i ds h
    rw [h]
    simp only [isLst, true_and, wp_bind]
    refine congrArg (WP _) (funext fun x => ?_)
    unfold kAp apP
    split
    · rename_i ds' h'; try rw [h']
      simp only [wp_ok, wp_ret]
    · rename_i h'
      simp only [wp_bad]
  · rename_i h
    simp only [wp_bad]
    refine propext ⟨fun f => f.elim, fun ⟨f, _⟩ => ?_⟩
    unfold isLst at f
    split at f
    · rename_i ds h2; exact absurd h2 (h ds)
    · cases f
def poP (o : Option (Option Sl)) (i : Nat) (env : Ev) (k : Int) (P : PyData × Ev → Prop) : Prop := match o with
  | some (some (.lst ds)) => (-1000000000 ≤ k ∧ k ≤ 1000000000) ∧ match ixN ds.length k with
      | some j => match ds[j]? with
        | some d => P (d, env.set i (some (.lst (ds.eraseIdx j))))
        | none => False
      | none => False
  | _ => False
theorem poP_ap (k : Nat) {d : PyData} (hd : ds[k]? = some d) (hk : k ≤ 1000000000) : poP (some (some (.lst ds))) i env (k : Int) PI = PI (d, env.set i (some (.lst (ds.eraseIdx k)))) := by
  have hl := (List.getElem?_eq_some_iff.mp hd).1
  have e : ixN ds.length (k : Int) = some k := by unfold ixN; rw [if_pos (by omega), if_pos (by omega)]; rfl
  unfold poP
  simp only [e, hd]
  exact propext ⟨fun h => h.2, fun h => ⟨⟨by omega, by omega⟩, h⟩⟩
def kPo (i : Nat) (P : PyData × Ev → Prop) : PyData × Ev → Prop := fun x => match x.1 with
  | .int k => poP x.2[i]? i x.2 k P
  | _ => False
theorem kPo_ap (k : Int) : kPo i PI (.int k, env) = poP env[i]? i env k PI := Eq.trans rfl rfl
theorem wp_popAt (m : MI) : WP (mPopAt i m env) PI = (isLst env[i]? = true ∧ WP (m env) (kPo i PI)) := by
  unfold mPopAt
  split
  · rename_i ds h
    rw [h]
    simp only [isLst, true_and, wp_bind]
    refine congrArg (WP _) (funext fun x => ?_)
    unfold kPo int? poP
    obtain ⟨x1, x2⟩ := x
    cases x1 <;> simp only [wp_ret, wp_bad]
    split
    · rename_i ds' h'
      try rw [h']
      simp only [wp_ok]
      refine congrArg (And _) ?_
      split
      · rename_i h2; (try rw [h2]); (try dsimp only)
        split
        · rename_i h3; (try rw [h3]); simp only [wp_ret]
        · rename_i h3; (try rw [h3]); simp only [wp_bad]
      · rename_i h2; (try rw [h2]); simp only [wp_bad]
    · rename_i h'
      simp only [wp_bad]
  · rename_i h
    simp only [wp_bad]
    refine propext ⟨fun f => f.elim, fun ⟨f, _⟩ => ?_⟩
    unfold isLst at f
    split at f
    · rename_i ds h2; exact absurd h2 (h ds)
    · cases f
end
end PV

set_option Elab.async false
set_option linter.all false
set_option autoImplicit false
set_option maxRecDepth 100000
/-! PV22: worth of the operations on ints, rows of ints, lists; rules of loops. -/
namespace PV
open PySem PySem.Spec L2

abbrev zs (ns : List Int) : List PyData := ns.map PyData.int
abbrev zT (ns : List Int) : PyData := .tuple (ns.map PyData.int)
abbrev zL (ns : List Int) : PyData := .list (ns.map PyData.int)
/-- a row's member -/
def at0 (xs : List Int) (i : Int) : Int := xs.getD i.toNat 0
theorem canLay_zs : ∀ ns : List Int, PyData.canLayAll0 (zs ns) = true
  | [] => rfl
  | n :: ns => by simp [PyData.canLayAll0, PyData.canLay0]; exact canLay_zs ns
theorem depth_zs : ∀ ns : List Int, PyData.depthAll (zs ns) = 0
  | [] => rfl
  | n :: ns => by simp [PyData.depthAll, PyData.depth]; exact depth_zs ns
theorem sh_zL (ns : List Int) : SeqAt.shaped (zL ns) = true := by simp [SeqAt.shaped, PyData.canLay0, PyData.depth, canLay_zs, depth_zs]
theorem sh_zT (ns : List Int) : SeqAt.shaped (zT ns) = true := by simp [SeqAt.shaped, PyData.canLay0, PyData.depth, canLay_zs, depth_zs]
theorem sh_int (n : Int) : SeqAt.shaped (.int n) = true := by simp [SeqAt.shaped, PyData.canLay0, PyData.depth]
theorem sh_none : SeqAt.shaped .none = true := by simp [SeqAt.shaped, PyData.canLay0, PyData.depth]
theorem sh_bool (b : Bool) : SeqAt.shaped (.bool b) = true := by simp [SeqAt.shaped, PyData.canLay0, PyData.depth]
theorem eqv_ii (a b : Int) : PyData.eqv (.int a) (.int b) = decide (a = b) := by simp [PyData.eqv]; exact (Bool.beq_eq_decide_eq a b)
theorem eqv_zs : ∀ a b : List Int, PyData.eqvAll (zs a) (zs b) = decide (a = b)
  | [], [] => by simp [PyData.eqvAll]
  | [], y :: b => by simp [PyData.eqvAll]
  | x :: a, [] => by simp [PyData.eqvAll]
  | x :: a, y :: b => by
    show (PyData.eqv (.int x) (.int y) && PyData.eqvAll (zs a) (zs b)) = _
    rw [eqv_ii, eqv_zs a b]
    by_cases h : x = y <;> by_cases h2 : a = b <;> simp [h, h2]
theorem eqv_TT (a b : List Int) : PyData.eqv (zT a) (zT b) = decide (a = b) := eqv_zs a b
theorem eqv_LL (a b : List Int) : PyData.eqv (zL a) (zL b) = decide (a = b) := eqv_zs a b
section
variable {Ps : Sl → Prop} (a b k : Int) (xs ys : List Int) (ds es : List PyData) (c e : Bool)
theorem d_add : WP (addD (.int a) (.int b)) Ps = Ps (.imm (.int (a + b))) := wp_ret ..
theorem d_addb : WP (addD (.int a) (.bool c)) Ps = Ps (.imm (.int (a + PyProof.Rows.b2i c))) := wp_ret ..
theorem d_addT : WP (addD (.tuple ds) (.tuple es)) Ps = (ds.length + es.length ≤ 1000000 ∧ Ps (.imm (.tuple (ds ++ es)))) := by
  show WP (ok _ _) _ = _
  rw [wp_ok, wp_ret]
theorem d_addL : WP (addD (.list ds) (.list es)) Ps = (ds.length + es.length ≤ 1000000 ∧ Ps (.lst (ds ++ es))) := by
  show WP (ok _ _) _ = _
  rw [wp_ok, wp_ret]
theorem d_sub : WP (subD (.int a) (.int b)) Ps = Ps (.imm (.int (a - b))) := wp_ret ..
theorem d_mul : WP (mulT (.int a) (.int b)) Ps = ((smallI a ∨ smallI b) ∧ Ps (.imm (.int (a * b)))) := by
  show WP (ok _ _) _ = _
  rw [wp_ok, wp_ret]
theorem d_mulL : WP (mulT (.list ds) (.int k)) Ps = ((k ≤ 1000000 ∧ -1000000 ≤ k ∧ ds.length * k.toNat ≤ 1000000) ∧ Ps (.lst (List.replicate k.toNat ds).flatten)) := by
  show WP (ok _ _) _ = _
  rw [wp_ok, wp_ret]
theorem d_fdiv : WP (fdivD (.int a) (.int b)) Ps = ((b ≠ 0 ∧ b.natAbs < 1073741824) ∧ Ps (.imm (.int (a.fdiv b)))) := by
  show WP (ok _ _) _ = _
  rw [wp_ok, wp_ret]
theorem d_mod : WP (modD (.int a) (.int b)) Ps = (b ≠ 0 ∧ Ps (.imm (.int (a.fmod b)))) := by
  show WP (ok _ _) _ = _
  rw [wp_ok, wp_ret]
theorem d_pow : WP (powD (.int a) (.int b)) Ps = ((0 ≤ b ∧ b ≤ 1000000 ∧ a.natAbs < 2 ^ 64) ∧ Ps (.imm (.int (a ^ b.toNat)))) := by
  show WP (ok _ _) _ = _
  rw [wp_ok, wp_ret]
theorem d_neg : WP (negD (.int a)) Ps = Ps (.imm (.int (-a))) := wp_ret ..
theorem d_lt : WP (ltD (.int a) (.int b)) Ps = Ps (.imm (.bool (decide (a < b)))) := wp_ret ..
theorem d_le : WP (leD (.int a) (.int b)) Ps = Ps (.imm (.bool (decide (a ≤ b)))) := wp_ret ..
theorem d_gt : WP (gtD (.int a) (.int b)) Ps = Ps (.imm (.bool (decide (b < a)))) := wp_ret ..
theorem d_ge : WP (geD (.int a) (.int b)) Ps = Ps (.imm (.bool (decide (b ≤ a)))) := wp_ret ..
theorem eq_on {d f : PyData} (h1 : SeqAt.shaped d = true) (h2 : SeqAt.shaped f = true) (hs : ∀ x, d ≠ .str x) : WP (eqD d f) Ps = Ps (.imm (.bool (PyData.eqv d f))) := by
  unfold eqD
  split
  · rename_i x y; exact absurd rfl (hs x)
  · rw [wp_ok, wp_ret]; exact propext ⟨fun h => h.2, fun h => ⟨⟨h1, h2⟩, h⟩⟩
theorem ne_on {d f : PyData} (h1 : SeqAt.shaped d = true) (h2 : SeqAt.shaped f = true) (hs : ∀ x, d ≠ .str x) : WP (neD d f) Ps = Ps (.imm (.bool (!PyData.eqv d f))) := by
  unfold neD
  split
  · rename_i x y; exact absurd rfl (hs x)
  · rw [wp_ok, wp_ret]; exact propext ⟨fun h => h.2, fun h => ⟨⟨h1, h2⟩, h⟩⟩
theorem d_eq : WP (eqD (.int a) (.int b)) Ps = Ps (.imm (.bool (decide (a = b)))) := by rw [eq_on (sh_int a) (sh_int b) (fun _ h => nomatch h), eqv_ii]
theorem d_ne : WP (neD (.int a) (.int b)) Ps = Ps (.imm (.bool (!decide (a = b)))) := by rw [ne_on (sh_int a) (sh_int b) (fun _ h => nomatch h), eqv_ii]
theorem d_eqT : WP (eqD (.tuple (xs.map .int)) (.tuple (ys.map .int))) Ps = Ps (.imm (.bool (decide (xs = ys)))) := by rw [eq_on (sh_zT xs) (sh_zT ys) (fun _ h => nomatch h), eqv_TT]
theorem d_neT : WP (neD (.tuple (xs.map .int)) (.tuple (ys.map .int))) Ps = Ps (.imm (.bool (!decide (xs = ys)))) := by rw [ne_on (sh_zT xs) (sh_zT ys) (fun _ h => nomatch h), eqv_TT]
theorem d_eqL : WP (eqD (.list (xs.map .int)) (.list (ys.map .int))) Ps = Ps (.imm (.bool (decide (xs = ys)))) := by rw [eq_on (sh_zL xs) (sh_zL ys) (fun _ h => nomatch h), eqv_LL]
theorem d_neL : WP (neD (.list (xs.map .int)) (.list (ys.map .int))) Ps = Ps (.imm (.bool (!decide (xs = ys)))) := by rw [ne_on (sh_zL xs) (sh_zL ys) (fun _ h => nomatch h), eqv_LL]
theorem d_eqT0 : WP (eqD (.tuple (xs.map .int)) (.tuple [])) Ps = Ps (.imm (.bool (decide (xs = [])))) := d_eqT xs []
theorem d_neT0 : WP (neD (.tuple (xs.map .int)) (.tuple [])) Ps = Ps (.imm (.bool (!decide (xs = [])))) := d_neT xs []
theorem d_eqL0 : WP (eqD (.list (xs.map .int)) (.list [])) Ps = Ps (.imm (.bool (decide (xs = [])))) := d_eqL xs []
theorem d_neL0 : WP (neD (.list (xs.map .int)) (.list [])) Ps = Ps (.imm (.bool (!decide (xs = [])))) := d_neL xs []
theorem d_eqS (x y : Str) : WP (eqD (.str x) (.str y)) Ps = Ps (.imm (.bool (decide (x = y)))) := wp_ret ..
theorem d_neS (x y : Str) : WP (neD (.str x) (.str y)) Ps = Ps (.imm (.bool (!decide (x = y)))) := wp_ret ..
theorem d_isN (d : PyData) : WP (isD d .none) Ps = Ps (.imm (.bool (isN d))) := by
  unfold isD
  rw [wp_ok, wp_ret]
  exact propext ⟨fun h => h.2, fun h => ⟨rfl, h⟩⟩
theorem d_isntN (d : PyData) : WP (isntD d .none) Ps = Ps (.imm (.bool (!isN d))) := by
  unfold isntD
  rw [wp_ok, wp_ret]
  exact propext ⟨fun h => h.2, fun h => ⟨rfl, h⟩⟩
theorem d_lenT : WP (lenD (.tuple ds)) Ps = Ps (.imm (.int (ds.length : Nat))) := wp_ret ..
theorem d_lenL : WP (lenD (.list ds)) Ps = Ps (.imm (.int (ds.length : Nat))) := wp_ret ..
theorem d_abs : WP (absD (.int a)) Ps = Ps (.imm (.int (if a < 0 then -a else a))) := wp_ret ..
theorem d_int : WP (intD (.int a)) Ps = Ps (.imm (.int a)) := wp_ret ..
theorem d_intb : WP (intD (.bool c)) Ps = Ps (.imm (.int (if c = true then 1 else 0))) := wp_ret ..
theorem d_tupT : WP (tupleD (.tuple ds)) Ps = Ps (.imm (.tuple ds)) := wp_ret ..
/-- tuple(list): its object told or not -/
def tupP (ds : List PyData) (Ps : Sl → Prop) : Prop := Ps (if frzOk ds = true then .ft ds else .imm (.tuple ds))
theorem d_tupL : WP (tupleD (.list ds)) Ps = tupP ds Ps := wp_ret ..
theorem tupP_both {ds : List PyData} (h1 : Ps (.ft ds)) (h2 : Ps (.imm (.tuple ds))) : tupP ds Ps := by unfold tupP; split <;> assumption
theorem tupP_ft {ds : List PyData} : tupP ds Ps = Ps (.ft ds) := Eq.trans rfl rfl
theorem d_listT : WP (listD (.tuple ds)) Ps = Ps (.lst ds) := wp_ret ..
theorem d_listL : WP (listD (.list ds)) Ps = Ps (.lst ds) := wp_ret ..
theorem d_max : WP (maxD [.int a, .int b]) Ps = Ps (.imm (.int (if b > a then b else a))) := wp_ret ..
theorem d_min : WP (minD [.int a, .int b]) Ps = Ps (.imm (.int (if b < a then b else a))) := wp_ret ..
theorem atI_on {α : Type} {l : List α} {i : Int} {d : α} (h0 : 0 ≤ i) (h : l[i.toNat]? = some d) : atI l i = some d := by
  have hl := (List.getElem?_eq_some_iff.mp h).1
  unfold atI ixN
  rw [if_pos h0, if_pos (by omega)]
  exact h
theorem zs_at {xs : List Int} {i : Nat} (h : i < xs.length) : (xs.map PyData.int)[i]? = some (.int (xs.getD i 0)) := by
  rw [List.getElem?_map, List.getElem?_eq_getElem h, List.getD_eq_getElem?_getD, List.getElem?_eq_getElem h]
  rfl
theorem d_ixT {xs : List Int} {i : Int} (h0 : 0 ≤ i) (h1 : i < (xs.length : Int)) : WP (ixD (.tuple (xs.map .int)) (.int i)) Ps = Ps (.imm (.int (at0 xs i))) := by
  have e := atI_on h0 (zs_at (xs := xs) (i := i.toNat) (by omega))
  show WP (match atI _ i with | some d => rI d | none => .bad) Ps = _
  rw [e]
  exact wp_ret ..
theorem d_ixL {xs : List Int} {i : Int} (h0 : 0 ≤ i) (h1 : i < (xs.length : Int)) : WP (ixD (.list (xs.map .int)) (.int i)) Ps = Ps (.imm (.int (at0 xs i))) := by
  have e := atI_on h0 (zs_at (xs := xs) (i := i.toNat) (by omega))
  show WP (match atI _ i with | some d => rI d | none => .bad) Ps = _
  rw [e]
  exact wp_ret ..
theorem d_ixTd {ds : List PyData} {i : Int} {d : PyData} (h0 : 0 ≤ i) (h : ds[i.toNat]? = some d) : WP (ixD (.tuple ds) (.int i)) Ps = Ps (.imm d) := by
  show WP (match atI _ i with | some d => rI d | none => .bad) Ps = _
  rw [atI_on h0 h]
  exact wp_ret ..
theorem d_ixLd {ds : List PyData} {i : Int} {d : PyData} (h0 : 0 ≤ i) (h : ds[i.toNat]? = some d) : WP (ixD (.list ds) (.int i)) Ps = Ps (.imm d) := by
  show WP (match atI _ i with | some d => rI d | none => .bad) Ps = _
  rw [atI_on h0 h]
  exact wp_ret ..
theorem d_slT (lo hi : Option Int) : WP (slD (.tuple ds) lo hi) Ps = Ps (.imm (.tuple (cutD ds lo hi))) := wp_ret ..
theorem d_slL (lo hi : Option Int) : WP (slD (.list ds) lo hi) Ps = Ps (.lst (cutD ds lo hi)) := wp_ret ..
theorem cut_to {ds : List PyData} {k : Int} (h0 : 0 ≤ k) : cutD ds none (some k) = ds.take k.toNat := by
  show (ds.drop 0).take ((if k < 0 then (k + (ds.length : Nat)).toNat else min k.toNat ds.length) - 0) = _
  rw [if_neg (by omega)]
  show ds.take (min k.toNat ds.length) = _
  by_cases h : k.toNat ≤ ds.length
  · rw [Nat.min_eq_left h]
  · rw [Nat.min_eq_right (by omega), List.take_of_length_le (Nat.le_refl _), List.take_of_length_le (by omega)]
theorem cut_from {ds : List PyData} {k : Int} (h0 : 0 ≤ k) : cutD ds (some k) none = ds.drop k.toNat := by
  show (ds.drop (if k < 0 then (k + (ds.length : Nat)).toNat else min k.toNat ds.length)).take (ds.length - (if k < 0 then (k + (ds.length : Nat)).toNat else min k.toNat ds.length)) = _
  rw [if_neg (by omega)]
  by_cases h : k.toNat ≤ ds.length
  · rw [Nat.min_eq_left h, List.take_of_length_le (by rw [List.length_drop]; exact Nat.le_refl _)]
  · rw [Nat.min_eq_right (by omega), Nat.sub_self, List.take_zero, List.drop_of_length_le (by omega)]
theorem d_revL : WP (revD (.list ds)) Ps = Ps (.lst ds.reverse) := wp_ret ..
theorem d_revT : WP (revD (.tuple ds)) Ps = Ps (.imm (.tuple ds.reverse)) := wp_ret ..
theorem d_repr (d : PyData) : WP (reprD1 d) Ps = ((wt d ≤ 1000000 ∧ d.depth ≤ 60) ∧ Ps (.imm (.str d.shown))) := by
  unfold reprD1
  rw [wp_ok, wp_ret]
theorem wp_pk (n : Int) : WP (w_pick [.src, .imm (.int n)]) Ps = ((-1000000000 ≤ n ∧ n ≤ 1000000000) ∧ ∀ i, 0 ≤ i → i < (if n > 1 then n else 1) → Ps (.imm (.int i))) := by
  show WP (ok _ _) _ = _
  rw [wp_ok, wp_pick]
  simp only [wp_ret]
end

/-! ### loops -/
section
variable {α : Type} {g : MTg} {body : MS} {env : Ev} {P : Fl × Ev → Prop}
/-- for x in xs: I tells of what is behind -/
theorem for_inv (f : α → PyData) (I : List α → Ev → Prop) : ∀ (xs pre : List α) (env : Ev), I pre env →
    (∀ done x rest env, pre ++ xs = done ++ x :: rest → I done env → WP (g (.imm (f x)) env) (kBody body (I (done ++ [x])) P)) →
    (∀ env, I (pre ++ xs) env → P (.nx, env)) → WP (forD g body (xs.map f) env) P
  | [], pre, env, h0, hs, he => by
    show WP (Tr.ret _) _
    rw [wp_ret]
    exact he env (by rw [List.append_nil]; exact h0)
  | x :: xs, pre, env, h0, hs, he => by
    have h1 := hs pre x xs env rfl h0
    show WP (Tr.bind _ _) P
    rw [wp_bind]
    refine wp_mono (fun env1 h2 => ?_) h1
    rw [wp_bind]
    refine wp_mono (fun y h3 => ?_) h2
    obtain ⟨y1, y2⟩ := y
    have go : I (pre ++ [x]) y2 → WP (forD g body (xs.map f) y2) P := fun h4 => for_inv f I xs (pre ++ [x]) y2 h4
      (fun done z rest env e => hs done z rest env (by rw [List.append_assoc] at e; exact e)) (fun env q => he env (by rw [List.append_assoc] at q; exact q))
    cases y1 with
    | nx => exact go h3
    | ct => exact go h3
    | bk => show WP (Tr.ret _) _; rw [wp_ret]; exact h3
    | rt s => show WP (Tr.ret _) _; rw [wp_ret]; exact h3
/-- while: I over states, each turn lessens the measure -/
theorem while_inv {σ : Type} {c : MT} (I : σ → Ev → Prop) (μ : σ → Nat) (hs : ∀ (s : σ) (env : Ev), I s env → WP (c env) (kWh body (fun env' => ∃ s', I s' env' ∧ μ s' < μ s) P)) :
    ∀ (n : Nat) (s : σ) (env : Ev), I s env → μ s < n → WP (whileD c body n env) P
  | 0, s, env, _, h => absurd h (by omega)
  | n + 1, s, env, h0, h => by
    have h1 := hs s env h0
    show WP (Tr.bind _ _) P
    rw [wp_bind]
    refine wp_mono (fun b h2 => ?_) h1
    obtain ⟨b1, b2⟩ := b
    rw [kWh_ap] at h2
    dsimp only
    split
    · rename_i hb
      rw [if_pos hb] at h2
      rw [wp_bind]
      refine wp_mono (fun y h3 => ?_) h2
      obtain ⟨y1, y2⟩ := y
      have go : (∃ s', I s' y2 ∧ μ s' < μ s) → WP (whileD c body n y2) P := fun ⟨s', h4, h5⟩ => while_inv I μ hs n s' y2 h4 (by omega)
      cases y1 with
      | nx => exact go h3
      | ct => exact go h3
      | bk => show WP (Tr.ret _) _; rw [wp_ret]; exact h3
      | rt s => show WP (Tr.ret _) _; rw [wp_ret]; exact h3
    · rename_i hb
      rw [if_neg hb] at h2
      rw [wp_ret]
      exact h2
end
section
variable {α : Type} {one : Bool} {is : List Nat} {tt : MT} {te : MI} {P : List PyData × Ev → Prop}
/-- a comprehension: I tells of what is behind and what came out -/
theorem lc_inv (f : α → PyData) (I : List α → List PyData → Ev → Prop) : ∀ (xs pre : List α) (out : List PyData) (env : Ev) (K : List PyData × Ev → Prop), I pre out env →
    (∀ done x rest out env, pre ++ xs = done ++ x :: rest → I done out env → WP (tgNames one is (f x) env) (kLt1 is tt te fun o env' => I (done ++ [x]) (out ++ o) env')) →
    (∀ o env, I (pre ++ xs) (out ++ o) env → K (o, env)) → WP (lcD one is tt te (xs.map f) env) K
  | [], pre, out, env, K, h0, hs, he => by
    show WP (Tr.ret _) _
    rw [wp_ret]
    exact he [] env (by rw [List.append_nil, List.append_nil]; exact h0)
  | x :: xs, pre, out, env, K, h0, hs, he => by
    have h1 := hs pre x xs out env rfl h0
    have go : ∀ o env', I (pre ++ [x]) (out ++ o) env' → WP (lcD one is tt te (xs.map f) env') fun r => K (o ++ r.1, r.2) := fun o env' h4 =>
      lc_inv f I xs (pre ++ [x]) (out ++ o) env' _ h4 (fun done z rest out env e => hs done z rest out env (by rw [List.append_assoc] at e; exact e))
        fun o' env q => he (o ++ o') env (by rw [List.append_assoc, List.append_assoc] at q; exact q)
    show WP (Tr.bind _ _) K
    rw [wp_bind]
    refine wp_mono (fun env1 h2 => ?_) h1
    rw [wp_bind]
    refine wp_mono (fun b h3 => ?_) h2
    obtain ⟨b1, b2⟩ := b
    rw [kLt2_ap] at h3
    dsimp only
    split
    · rename_i hb
      rw [if_pos hb] at h3
      rw [wp_bind]
      refine wp_mono (fun y h4 => ?_) h3
      obtain ⟨y1, y2⟩ := y
      rw [wp_bind]
      refine wp_mono (fun r h5 => ?_) (go [y1] _ h4)
      rw [wp_ret]
      exact h5
    · rename_i hb
      rw [if_neg hb] at h3
      exact wp_mono (fun r h5 => h5) (go [] _ h3)
/-- a comprehension that leaves the slots -/
theorem lc_pure (f : α → PyData) (p : α → Bool) (h : α → PyData) (xs : List α) (env : Ev) (K : List PyData × Ev → Prop)
    (hs : ∀ x ∈ xs, WP (tgNames one is (f x) env) (kLt1 is tt te fun o env' => o = (if p x = true then [h x] else []) ∧ env' = env))
    (he : K ((xs.filter p).map h, env)) : WP (lcD one is tt te (xs.map f) env) K := by
  refine lc_inv f (fun done out env' => out = (done.filter p).map h ∧ env' = env) xs [] [] env K ⟨rfl, rfl⟩ (fun done x rest out env' e hd => ?_) (fun o env' hd => ?_)
  · obtain ⟨rfl, rfl⟩ := hd
    refine wp_mono (fun env1 h2 => ?_) (hs x (by rw [List.nil_append] at e; rw [e]; simp))
    refine wp_mono (fun b h3 => ?_) h2
    rw [List.filter_append, List.map_append]
    have key : ∀ o env2, (o = (if p x = true then [h x] else []) ∧ env2 = env') → (done.filter p).map h ++ o = (done.filter p).map h ++ ([x].filter p).map h ∧ env2 = env' := by
      intro o env2 ⟨h1, h2⟩
      refine ⟨?_, h2⟩
      rw [h1]
      by_cases hp : p x = true
      · simp [hp]
      · simp [hp]
    obtain ⟨b1, b2⟩ := b
    rw [kLt2_ap] at h3
    rw [kLt2_ap]
    cases b1 with
    | true => exact wp_mono (fun y h4 => key _ _ h4) h3
    | false => exact key _ _ h3
  · obtain ⟨h1, rfl⟩ := hd
    rw [List.nil_append, List.nil_append] at h1
    rw [h1]
    exact he
end
end PV

set_option Elab.async false
set_option linter.all false
set_option autoImplicit false
set_option maxRecDepth 100000
/-! PV23: x, y = a, b where a name is a cell; (); {k: v, ..}.get(a, b). -/
namespace PV
open PySem PySem.Spec L2
section
variable {K : PySem.W.Frag} {R Z Z' : Hp} {S : Src} {H H' : Hp} {σ : L2.St} {env : Ev}
theorem Res.step {v : V} {s : Sl} (r : Res K R Z S H σ env v s) (t : Step R Z S H Z' H') : Res K R Z' S H' σ env v s := by
  refine ⟨r.r.mono t.e fun a ha ho o hH => t.st a o hH ((r.o ho a ha).2.2), fun ho a ha => ?_, r.f⟩
  have q := r.o ho a ha
  obtain ⟨a', u, hv, hu, _⟩ := r.r.at ho
  rw [ha] at hv
  cases hv
  exact ⟨q.1, t.nz a q (by rw [hu]; simp), q.2.2⟩
/-- what was reserved is free again -/
theorem SR.unreserve {D : Addr} {o : HO} (q : SR K (upd R D o) Z S H σ env) (h : R D = none) : SR K R Z S H σ env := by
  have le : Same R (upd R D o) := Same.upd_new h
  have nr : ∀ x, (upd R D o) x = none → R x = none := fun x e => le.free e
  refine ⟨⟨fun x u e => q.g.r x u (le x u e), q.g.z, q.g.s, fun x u e => q.g.rz x u (le x u e), fun x n => ⟨nr x (q.g.rs x n).1, (q.g.rs x n).2⟩, q.g.tz⟩, q.len, fun j t hj => ?_, q.ds⟩
  obtain ⟨v, h1, h2, h3⟩ := q.sl j t hj
  exact ⟨v, h1, h2, fun ho a ha => ⟨nr a (h3 ho a ha).1, (h3 ho a ha).2⟩⟩
end
section
variable {X : Cx} {a b c : Expr} {p q r : Bool} {ma mb : ME} {x y z : Str} {px py pz pt pt2 pos : Pos} {kt k2 : Nat} {i j l : Nat}
theorem vs_parT (hc : X.calm = true) (hN : X.N.Nodup) (ha : VE X p a ma) (hb : VE X q b mb)
    (hi : X.N[i]? = some x := by rfl) (hj : X.N[j]? = some y := by rfl)
    (hx : Loc X.env.scope x := by first | exact Or.inl rfl | exact Or.inr rfl) (hy : Loc X.env.scope y := by first | exact Or.inl rfl | exact Or.inr rfl)
    (hfx : X.fn x = true ∨ X.env.scope.names.lookup x = some .local := by first | exact .inl rfl | exact .inr rfl) (hfy : X.fn y = true ∨ X.env.scope.names.lookup y = some .local := by first | exact .inl rfl | exact .inr rfl)
    (h1 : starEach [a, b] X.env = (false, eval a X.env) :: starEach [b] X.env := by rfl) (h2 : starEach [b] X.env = (false, eval b X.env) :: starEach [] X.env := by rfl)
    (g1 : (assignEach [.Name x px, .Name y py] X.env).map (·.2) = assign (.Name x px) X.env :: (assignEach [.Name y py] X.env).map (·.2) := by rfl)
    (g2 : (assignEach [.Name y py] X.env).map (·.2) = assign (.Name y py) X.env :: (assignEach [] X.env).map (·.2) := by rfl)
    (hn : (assignEach [.Name x px, .Name y py] X.env).length = 2 := by rfl) (hst : (assignEach [.Name x px, .Name y py] X.env).findIdx? (·.1) = none := by rfl)
    (hs : swapsWithSole [.Tuple [.Name x px, .Name y py] kt pt] (.Tuple [a, b] k2 pt2) pos.line X.env = pure false := by rfl)
    (hw : swappedStores [.Tuple [.Name x px, .Name y py] kt pt] (.Tuple [a, b] k2 pt2) X.env = pure none := by rfl)
    (h3 : (assignEach [.Tuple [.Name x px, .Name y py] kt pt] X.env).map (·.2) = [assign (.Tuple [.Name x px, .Name y py] kt pt) X.env] := by rfl) :
    VS X (.Assign [.Tuple [.Name x px, .Name y py] kt pt] (.Tuple [a, b] k2 pt2) pos) (sPar i j ma mb) :=
  ps_weak (ps_asg (pe_tup (pa_cons ha (pa_cons hb pa_nil h2) h1)) (pg_tup hc (pgs_cons (pg_name hN hi hx hfx) (pgs_cons (pg_name hN hj hy hfy) pgs_nil g2) g1) hn hst) hs hw h3) fun D σ H ⟨R, Z, S, env, s, k⟩ => by
    obtain ⟨hl, k⟩ := ok_all k
    refine ⟨R, Z, S, env, s, all_mono (fun t k v Z1 H1 e1 st1 s1 r1 => ?_) (all_bind.mp k)⟩
    obtain ⟨R', sR, back⟩ := s1.hold r1
    refine ⟨R', Z1, S, t.2, sR, all_mono (fun u k w Z2 H2 e2 st2 s2 r2 => ?_) (all_bind.mp k)⟩
    obtain ⟨hl2, k⟩ := ok_all k
    refine ⟨line_of (by simp only [List.length_cons, List.length_nil]; omega), fun pp hp => ?_⟩
    have t' := Step.last (o := .tup [v, w]) s2.g hp
    have s3 := s2.step t'
    obtain ⟨b1, b2, b3⟩ := back (e2.trans t'.e) s3
    obtain ⟨b4, b5⟩ := b3 (r2.step t')
    exact ⟨pp, [v, w], rfl, .inl (.inl upd_same), rfl, v, [w], rfl, w, [], rfl, rfl, k _ _ _ (e1.trans (e2.trans t'.e)) ((b1.set b2).set (b4.beside b1 hl2 b5))⟩
/-- (): its object told -/
def mTup0 : ME := fun env => .ret (.ft [], env)
theorem pe_tup0 {x1 : Nat} : PE X (.Tuple [] x1 pos) (fun σ H Q => ∀ l o, H l = none → o.dict = none → Q (.ref l) (upd H l (.frz o (.tup [])))) := by
  refine ⟨fun pins s σ H Q I q => ?_⟩
  refine wpAny_Tuple_spliced (thn ((pa_nil (X := X)).run pos pins s σ H (fun xs H1 => xs = [] ∧ H1 = H) I ⟨rfl, rfl⟩) fun us s1 ⟨xs, H1, I1, r, e1, e2⟩ => ?_)
  subst e1; subst e2
  cases r
  refine ⟨Nat.zero_le _, ?_⟩
  have I2 : Inv X pins σ (upd H1 s1.heap.objs.size (.frz { cls := .type "tuple", data := .seq #[] } (.tup []))) { s1 with heap := s1.heap.push { cls := .type "tuple", data := .seq #[] } } :=
    I1.laid (t' := s1.toks) (fun b o e => Heap.get?_push_of_some _ e) (Nat.le_refl _) (show ObjOk X.prog X.w _ _ _ (.frz _ (.tup [])) from ⟨Heap.get?_push_size _ rfl, Nat.zero_le _, [], .nil, PyProof.Rows.IsTup.new _ _⟩)
  exact ⟨.ref s1.heap.objs.size, _, I2, rfl, q _ _ (I1.hok.fresh (Nat.le_refl _)) rfl⟩
theorem ve_tup0 {x1 : Nat} : VE X true (.Tuple [] x1 pos) mTup0 :=
  pe_weak pe_tup0 fun σ H Q ⟨R, Z, S, env, s, k⟩ => fun l o hp hd => by
    have t := Step.last (o := .frz o (.tup [])) s.g hp
    exact k (.ref l) _ _ t.e (fun _ => t.st) (s.step t) ⟨⟨l, [], rfl, ⟨rfl, o, upd_same, hd⟩, .nil⟩, (fun z => nomatch z), (fun z => nomatch z)⟩
end
theorem wp_tup0 {P : Sl × Ev → Prop} (env : Ev) : WP (mTup0 env) P = P (.ft [], env) := wp_ret ..
/-- what comes back of a slot -/
def rs1 (o : Option (Option Sl)) : Option Sl := match o with
  | some (some (.imm d)) => some (.imm d)
  | some (some .src) => some .src
  | _ => none
theorem wp_wipe0 (env : Ev) : wipeE [] env = env := Eq.trans rfl rfl
theorem wp_wipe (i : Nat) (is : List Nat) (env : Ev) : wipeE (i :: is) env = (wipeE is env).set i none := Eq.trans rfl rfl
theorem wp_rest0 (env0 env : Ev) : restoreE env0 [] env = env := Eq.trans rfl rfl
theorem wp_rest (env0 env : Ev) (i : Nat) (is : List Nat) : restoreE env0 (i :: is) env = (restoreE env0 is env).set i (rs1 env0[i]?) := by
  unfold rs1
  rw [restoreE]
  generalize env0[i]? = o
  rcases o with _ | _ | s
  · rfl
  · rfl
  · cases s <;> rfl
end PV

set_option Elab.async false
set_option linter.all false
set_option autoImplicit false
set_option maxRecDepth 100000
/-! PVw: rows of things: swaps of places, exchanges of things, words to a row. -/
namespace PV
/-- the plain row -/
def rng (n : Nat) : List Int := (List.range n).map fun i => ((i : Nat) : Int)
theorem rng_len (n : Nat) : (rng n).length = n := by simp [rng]
theorem rng_get {n i : Nat} (h : i < n) : (rng n)[i]? = some (i : Int) := by
  unfold rng
  rw [List.getElem?_map, List.getElem?_range h]
  rfl
theorem rng_nodup (n : Nat) : (rng n).Nodup := by
  unfold rng
  exact List.Pairwise.map _ (fun a b h e => h (Int.ofNat.inj e)) List.nodup_range
theorem mem_rng {n : Nat} {x : Int} : x ∈ rng n ↔ 0 ≤ x ∧ x < (n : Int) := by
  unfold rng
  simp only [List.mem_map, List.mem_range]
  constructor
  · rintro ⟨i, h, rfl⟩; omega
  · rintro ⟨h1, h2⟩; exact ⟨x.toNat, by omega, by omega⟩
structure IsRow (n : Nat) (r : List Int) : Prop where
  perm : r.Perm (rng n)
section
variable {n : Nat} {r : List Int}
theorem IsRow.len (h : IsRow n r) : r.length = n := by rw [h.perm.length_eq, rng_len]
theorem IsRow.nodup (h : IsRow n r) : r.Nodup := h.perm.nodup_iff.mpr (rng_nodup n)
theorem IsRow.mem (h : IsRow n r) {x : Int} : x ∈ r ↔ 0 ≤ x ∧ x < (n : Int) := by rw [h.perm.mem_iff, mem_rng]
theorem rng_row (n : Nat) : IsRow n (rng n) := ⟨.refl _⟩
end
/-! ### swaps of places -/
def swp (r : List Int) (k : Nat) : List Int := (r.set k (r.getD (k + 1) 0)).set (k + 1) (r.getD k 0)
def upK (r : List Int) (k : Nat) : Prop := r.getD k 0 < r.getD (k + 1) 0
instance (r : List Int) (k : Nat) : Decidable (upK r k) := by unfold upK; infer_instance
theorem split2 {r : List Int} {k : Nat} (h : k + 1 < r.length) : ∃ A x y B, r = A ++ x :: y :: B ∧ A.length = k := by
  refine ⟨r.take k, r[k], r[k + 1], r.drop (k + 2), ?_, by rw [List.length_take]; omega⟩
  have h1 : r.drop k = r[k] :: r.drop (k + 1) := List.drop_eq_getElem_cons (by omega)
  have h2 : r.drop (k + 1) = r[k + 1] :: r.drop (k + 2) := List.drop_eq_getElem_cons h
  rw [← h2, ← h1, List.take_append_drop]
section
variable (A B : List Int) (x y : Int)
theorem get_at : (A ++ x :: y :: B).getD A.length 0 = x := by simp [List.getD_eq_getElem?_getD]
theorem get_at1 : (A ++ x :: y :: B).getD (A.length + 1) 0 = y := by
  rw [List.getD_eq_getElem?_getD, List.getElem?_append_right (by omega)]
  simp
theorem swp_at : swp (A ++ x :: y :: B) A.length = A ++ y :: x :: B := by
  unfold swp
  rw [get_at, get_at1, List.set_append, if_neg (by omega), Nat.sub_self, List.set_append, if_neg (by omega)]
  have : A.length + 1 - A.length = 1 := by omega
  rw [this]
  rfl
theorem upK_at : upK (A ++ x :: y :: B) A.length ↔ x < y := by unfold upK; rw [get_at, get_at1]
end
theorem swp_len (r : List Int) (k : Nat) : (swp r k).length = r.length := by simp [swp]
section
variable {n : Nat} {r : List Int} {k : Nat}
theorem swp_swp (h : k + 1 < r.length) : swp (swp r k) k = r := by
  obtain ⟨A, x, y, B, rfl, rfl⟩ := split2 h
  rw [swp_at, swp_at]
theorem swp_perm (h : k + 1 < r.length) : (swp r k).Perm r := by
  obtain ⟨A, x, y, B, rfl, rfl⟩ := split2 h
  rw [swp_at]
  exact .append_left _ (.swap ..)
theorem IsRow.swp (h : IsRow n r) (hk : k + 1 < n) : IsRow n (PV.swp r k) := ⟨(swp_perm (by rw [h.len]; exact hk)).trans h.perm⟩
theorem nd_ne {A B : List Int} {x y : Int} (h : (A ++ x :: y :: B).Nodup) : x ≠ y := by
  have := (List.nodup_append.mp h).2.1
  rw [List.nodup_cons] at this
  intro e
  exact this.1 (by rw [e]; simp)
theorem up_swp (h : IsRow n r) (hk : k + 1 < n) : upK (PV.swp r k) k ↔ ¬ upK r k := by
  have nd := h.nodup
  obtain ⟨A, x, y, B, rfl, rfl⟩ := split2 (r := r) (by rw [h.len]; exact hk)
  rw [swp_at, upK_at, upK_at]
  have := nd_ne nd
  omega
end
/-! ### exchanges of things -/
def vx (a v : Int) : Int := if v = a then a + 1 else if v = a + 1 then a else v
def vsw (r : List Int) (a : Int) : List Int := r.map (vx a)
def upV (r : List Int) (a : Int) : Prop := r.idxOf a < r.idxOf (a + 1)
instance (r : List Int) (a : Int) : Decidable (upV r a) := by unfold upV; infer_instance
theorem vx_vx (a v : Int) : vx a (vx a v) = v := by unfold vx; split <;> split <;> (try split) <;> omega
section
variable {n : Nat} {r : List Int} {k : Nat} {a : Int}
theorem vsw_vsw (r : List Int) (a : Int) : vsw (vsw r a) a = r := by
  unfold vsw
  rw [List.map_map]
  have : (vx a ∘ vx a) = id := funext fun v => vx_vx a v
  rw [this, List.map_id]
theorem vsw_len (r : List Int) (a : Int) : (vsw r a).length = r.length := by simp [vsw]
theorem vx_inj (a : Int) {u v : Int} (h : vx a u = vx a v) : u = v := by
  have := congrArg (vx a) h
  rwa [vx_vx, vx_vx] at this
theorem nodup_subset_perm {l m : List Int} (hl : l.Nodup) (hm : m.Nodup) (h : ∀ x, x ∈ l ↔ x ∈ m) : l.Perm m := by
  rw [List.perm_iff_count]
  intro x
  rw [hl.count, hm.count]
  by_cases hx : x ∈ l
  · rw [if_pos hx, if_pos ((h x).mp hx)]
  · rw [if_neg hx, if_neg (fun z => hx ((h x).mpr z))]
theorem IsRow.vsw (h : IsRow n r) (h0 : 0 ≤ a) (h1 : a + 1 < (n : Int)) : IsRow n (PV.vsw r a) := by
  refine ⟨nodup_subset_perm (List.Pairwise.map _ (fun _ _ hn e => hn (vx_inj a e)) h.nodup) (rng_nodup n) fun x => ?_⟩
  rw [mem_rng]
  unfold PV.vsw
  rw [List.mem_map]
  constructor
  · rintro ⟨v, hv, rfl⟩
    have := h.mem.mp hv
    unfold vx
    split
    · omega
    · split <;> omega
  · intro hx
    refine ⟨vx a x, h.mem.mpr ?_, vx_vx a x⟩
    unfold vx
    split
    · omega
    · split <;> omega
theorem vsw_swp (r : List Int) (k : Nat) (a : Int) (h : k + 1 < r.length) : vsw (swp r k) a = swp (vsw r a) k := by
  obtain ⟨A, x, y, B, rfl, rfl⟩ := split2 h
  rw [swp_at]
  unfold vsw
  rw [List.map_append, List.map_cons, List.map_cons, List.map_append, List.map_cons, List.map_cons]
  have := swp_at (A.map (vx a)) (B.map (vx a)) (vx a x) (vx a y)
  rw [List.length_map] at this
  exact this.symm
/-- the pair at the places k, k + 1 is that of the things a, a + 1 -/
def same2 (r : List Int) (k : Nat) (a : Int) : Prop := (r.getD k 0 = a ∧ r.getD (k + 1) 0 = a + 1) ∨ (r.getD k 0 = a + 1 ∧ r.getD (k + 1) 0 = a)
theorem idx_at (A B : List Int) (x y v : Int) : (A ++ x :: y :: B).idxOf v = if v ∈ A then A.idxOf v else (if x = v then 0 else if y = v then 1 else B.idxOf v + 2) + A.length := by
  rw [List.idxOf_append]
  split
  · rfl
  · rw [List.idxOf_cons, List.idxOf_cons]
    by_cases h1 : x = v
    · simp [h1]
    · by_cases h2 : y = v
      · simp [h1, h2, beq_eq_false_iff_ne.mpr h1]
      · rw [beq_eq_false_iff_ne.mpr h1, beq_eq_false_iff_ne.mpr h2, if_neg h1, if_neg h2]
        rfl
theorem upV_same (h : IsRow n r) (hk : k + 1 < n) (hs : same2 r k a) : PV.swp r k = PV.vsw r a ∧ (upV r a ↔ upK r k) := by
  have nd := h.nodup
  obtain ⟨A, x, y, B, rfl, rfl⟩ := split2 (r := r) (by rw [h.len]; exact hk)
  unfold same2 at hs
  rw [get_at, get_at1] at hs
  have hd := List.nodup_append.mp nd
  have hnA : x ∉ A ∧ y ∉ A := ⟨fun z => hd.2.2 x z x (by simp) rfl, fun z => hd.2.2 y z y (by simp) rfl⟩
  have h3 := hd.2.1
  rw [List.nodup_cons, List.nodup_cons] at h3
  have hnB : x ∉ B ∧ y ∉ B := ⟨fun z => h3.1 (by simp [z]), h3.2.1⟩
  have hne := nd_ne nd
  have fix : ∀ (l : List Int), x ∉ l → y ∉ l → l.map (vx a) = l := by
    intro l h1 h2
    conv => rhs; rw [← List.map_id l]
    refine List.map_congr_left fun v hv => ?_
    have n1 : v ≠ x := fun e => h1 (e ▸ hv)
    have n2 : v ≠ y := fun e => h2 (e ▸ hv)
    unfold vx
    rw [if_neg (by omega), if_neg (by omega)]
    rfl
  rw [swp_at, upK_at]
  unfold PV.vsw upV
  rw [List.map_append, List.map_cons, List.map_cons, fix A hnA.1 hnA.2, fix B hnB.1 hnB.2, idx_at, idx_at]
  rcases hs with ⟨e1, e2⟩ | ⟨e1, e2⟩
  · subst e1
    have e3 : vx x x = y := by unfold vx; rw [if_pos rfl]; omega
    have e4 : vx x y = x := by unfold vx; rw [if_neg (by omega), if_pos (by omega)]
    refine ⟨by rw [e3, e4], ?_⟩
    rw [← e2]
    rw [if_neg hnA.1, if_neg hnA.2, if_pos rfl, if_neg hne, if_pos rfl]
    omega
  · subst e2
    have e3 : vx y x = y := by unfold vx; rw [if_neg (by omega), if_pos (by omega)]
    have e4 : vx y y = x := by unfold vx; rw [if_pos rfl]; omega
    refine ⟨by rw [e3, e4], ?_⟩
    rw [← e1]
    rw [if_neg hnA.1, if_neg hnA.2, if_neg hne, if_pos rfl, if_pos rfl]
    omega
theorem upK_vsw (h : IsRow n r) (hk : k + 1 < n) (hs : ¬ same2 r k a) : upK (PV.vsw r a) k ↔ upK r k := by
  have nd := h.nodup
  obtain ⟨A, x, y, B, rfl, rfl⟩ := split2 (r := r) (by rw [h.len]; exact hk)
  unfold same2 at hs
  rw [get_at, get_at1] at hs
  have hne := nd_ne nd
  unfold PV.vsw
  rw [List.map_append, List.map_cons, List.map_cons]
  have := upK_at (A.map (vx a)) (B.map (vx a)) (vx a x) (vx a y)
  rw [List.length_map] at this
  rw [this, upK_at]
  unfold vx
  split <;> split <;> (try split) <;> (try split) <;> omega
theorem upV_swp (h : IsRow n r) (hk : k + 1 < n) (hs : ¬ same2 r k a) : upV (PV.swp r k) a ↔ upV r a := by
  have nd := h.nodup
  obtain ⟨A, x, y, B, rfl, rfl⟩ := split2 (r := r) (by rw [h.len]; exact hk)
  unfold same2 at hs
  rw [get_at, get_at1] at hs
  have hne := nd_ne nd
  rw [swp_at]
  unfold upV
  rw [idx_at, idx_at, idx_at, idx_at]
  have hA : ∀ v, v ∈ A → A.idxOf v < A.length := fun v hv => List.idxOf_lt_length_iff.mpr hv
  have i1 := hA a
  have i2 := hA (a + 1)
  by_cases m1 : a ∈ A <;> by_cases m2 : a + 1 ∈ A
  · rw [if_pos m1, if_pos m2, if_pos m1, if_pos m2]
  · have := i1 m1
    rw [if_pos m1, if_neg m2, if_pos m1, if_neg m2]
    omega
  · have := i2 m2
    rw [if_neg m1, if_pos m2, if_neg m1, if_pos m2]
    omega
  · rw [if_neg m1, if_neg m2, if_neg m1, if_neg m2]
    split <;> split <;> split <;> (try split) <;> (try split) <;> (try split) <;> (try split) <;> (try split) <;> omega
theorem up_vsw (h : IsRow n r) (h0 : 0 ≤ a) (h1 : a + 1 < (n : Int)) : upV (PV.vsw r a) a ↔ ¬ upV r a := by
  have idx : ∀ v, (PV.vsw r a).idxOf v = r.idxOf (vx a v) := by
    intro v
    unfold PV.vsw
    have go : ∀ l : List Int, (l.map (vx a)).idxOf v = l.idxOf (vx a v) := by
      intro l
      induction l with
      | nil => rfl
      | cons x l ih =>
        rw [List.map_cons, List.idxOf_cons, List.idxOf_cons, ih]
        have : (vx a x == v) = (x == vx a v) := by
          by_cases e : x = vx a v
          · rw [e, vx_vx]; simp
          · rw [beq_eq_false_iff_ne.mpr e, beq_eq_false_iff_ne.mpr]
            intro z
            exact e (by rw [← z, vx_vx])
        rw [this]
    exact go r
  unfold upV
  rw [idx, idx]
  have e1 : vx a a = a + 1 := by unfold vx; rw [if_pos rfl]
  have e2 : vx a (a + 1) = a := by unfold vx; rw [if_neg (by omega), if_pos rfl]
  rw [e1, e2]
  have ma : a ∈ r := h.mem.mpr (by omega)
  have mb : a + 1 ∈ r := h.mem.mpr (by omega)
  have : r.idxOf a ≠ r.idxOf (a + 1) := by
    intro e
    have g1 := List.getElem_idxOf (List.idxOf_lt_length_iff.mpr ma)
    have g2 := List.getElem_idxOf (List.idxOf_lt_length_iff.mpr mb)
    have : r[r.idxOf a]'(List.idxOf_lt_length_iff.mpr ma) = r[r.idxOf (a + 1)]'(List.idxOf_lt_length_iff.mpr mb) := by
      congr 1
    rw [g1, g2] at this
    omega
  omega
end
end PV

set_option Elab.async false
set_option linter.all false
set_option autoImplicit false
set_option maxRecDepth 100000
/-! PVh: words to a row, from both sides; sums of rows taken with swaps from both sides. -/
namespace PV
/-! ### a measure: the sum of place times thing -/
def ws : Int → List Int → Int
  | _, [] => 0
  | i, x :: l => i * x + ws (i + 1) l
theorem ws_append : ∀ (l m : List Int) (i : Int), ws i (l ++ m) = ws i l + ws (i + (l.length : Nat)) m
  | [], m, i => by simp [ws]
  | x :: l, m, i => by
    show i * x + ws (i + 1) (l ++ m) = i * x + ws (i + 1) l + _
    rw [ws_append l m (i + 1), List.length_cons]
    have : i + 1 + (l.length : Nat) = i + ((l.length + 1 : Nat) : Int) := by omega
    rw [this]
    omega
theorem ws_swp {r : List Int} {k : Nat} (h : k + 1 < r.length) : ws 0 (swp r k) = ws 0 r + (r.getD k 0 - r.getD (k + 1) 0) := by
  obtain ⟨A, x, y, B, rfl, rfl⟩ := split2 h
  rw [swp_at, get_at, get_at1, ws_append, ws_append]
  show _ + (_ * y + ((_ + 1) * x + _)) = _ + (_ * x + ((_ + 1) * y + _)) + (x - y)
  simp only [Int.add_mul, Int.one_mul]
  omega
theorem ws_bd : ∀ (l : List Int) (i N : Int), 0 ≤ i → i + (l.length : Nat) ≤ N → (∀ x ∈ l, 0 ≤ x ∧ x ≤ N) → 0 ≤ ws i l ∧ ws i l ≤ (l.length : Nat) * (N * N)
  | [], i, N, _, _, _ => by simp [ws]
  | x :: l, i, N, h0, h1, hx => by
    rw [List.length_cons] at h1
    have ih := ws_bd l (i + 1) N (by omega) (by omega) fun y hy => hx y (by simp [hy])
    have hx0 := hx x (by simp)
    have m1 : 0 ≤ i * x := Int.mul_nonneg h0 hx0.1
    have m2 : i * x ≤ N * N := Int.mul_le_mul (by omega) hx0.2 hx0.1 (by omega)
    have e : (((x :: l).length : Nat) : Int) * (N * N) = (l.length : Nat) * (N * N) + N * N := by
      rw [List.length_cons, Int.natCast_add, Int.add_mul]
      omega
    rw [e]
    show 0 ≤ i * x + ws (i + 1) l ∧ i * x + ws (i + 1) l ≤ _
    omega
theorem ws_eq_iff : ∀ (l : List Int) (i : Int) (a : Int) (f : Int → Int), ws i (l.map f) = ws i (l.map f) := fun _ _ _ _ => rfl
theorem ws_fix (a : Int) : ∀ (l : List Int) (i : Int), a ∉ l → a + 1 ∉ l → l.map (vx a) = l
  | [], _, _, _ => rfl
  | x :: l, i, h1, h2 => by
    simp only [List.mem_cons, not_or] at h1 h2
    have e : vx a x = x := by unfold vx; rw [if_neg (by omega), if_neg (by omega)]
    rw [List.map_cons, e, ws_fix a l i h1.2 h2.2]
/-- how much the measure grows -/
theorem ws_vsw {n : Nat} {r : List Int} {a : Int} (h : IsRow n r) (h0 : 0 ≤ a) (h1 : a + 1 < (n : Int)) : ws 0 (vsw r a) = ws 0 r + ((r.idxOf a : Nat) - (r.idxOf (a + 1) : Nat) : Int) := by
  have key : ∀ (l : List Int) (i : Int), l.Nodup → a ∈ l → a + 1 ∈ l → ws i (l.map (vx a)) = ws i l + ((l.idxOf a : Nat) - (l.idxOf (a + 1) : Nat) : Int) := by
    have one : ∀ (l : List Int) (i : Int) (b : Int), (b = a ∨ b = a + 1) → l.Nodup → b ∈ l → vx a b ∉ l → ws i (l.map (vx a)) = ws i l + (i + (l.idxOf b : Nat)) * (vx a b - b) := by
      intro l
      induction l with
      | nil => intro i b _ _ h; simp at h
      | cons x l ih =>
        intro i b hb nd hm hn
        simp only [List.mem_cons, not_or] at hm hn
        obtain ⟨nx, nd⟩ := List.nodup_cons.mp nd
        by_cases e : b = x
        · subst e
          have hf : l.map (vx a) = l := by
            rcases hb with rfl | rfl
            · have : vx b b = b + 1 := by unfold vx; rw [if_pos rfl]
              rw [this] at hn
              exact ws_fix b l 0 nx hn.2
            · have : vx a (a + 1) = a := by unfold vx; rw [if_neg (by omega), if_pos rfl]
              rw [this] at hn
              exact ws_fix a l 0 hn.2 nx
          rw [List.map_cons, hf, List.idxOf_cons]
          simp only [beq_self_eq_true, cond_true]
          show i * vx a b + ws (i + 1) l = i * b + ws (i + 1) l + (i + ((0 : Nat) : Int)) * (vx a b - b)
          rw [Int.mul_sub]
          simp only [Int.natCast_zero, Int.add_zero]
          omega
        · have hm' : b ∈ l := by rcases hm with h | h; exact absurd h e; exact h
          have ex : vx a x = x := by
            rcases hb with rfl | rfl
            · have : vx b b = b + 1 := by unfold vx; rw [if_pos rfl]
              rw [this] at hn
              unfold vx; rw [if_neg (by omega), if_neg (by omega)]
            · have : vx a (a + 1) = a := by unfold vx; rw [if_neg (by omega), if_pos rfl]
              rw [this] at hn
              unfold vx; rw [if_neg (by omega), if_neg (by omega)]
          rw [List.map_cons, ex, List.idxOf_cons, beq_eq_false_iff_ne.mpr (fun z => e z.symm)]
          simp only [cond_false]
          show i * x + ws (i + 1) (l.map (vx a)) = i * x + ws (i + 1) l + _
          rw [ih (i + 1) b hb nd hm' hn.2]
          have : i + 1 + ((l.idxOf b : Nat) : Int) = i + ((l.idxOf b + 1 : Nat) : Int) := by omega
          rw [this]
          omega
    intro l
    induction l with
    | nil => intro i _ h; simp at h
    | cons x l ih =>
      intro i nd m1 m2
      simp only [List.mem_cons] at m1 m2
      obtain ⟨nx, nd⟩ := List.nodup_cons.mp nd
      rw [List.map_cons, List.idxOf_cons, List.idxOf_cons]
      by_cases e1 : x = a
      · have m2' : a + 1 ∈ l := by rcases m2 with h | h; omega; exact h
        have ev : vx a (a + 1) = a := by unfold vx; rw [if_neg (by omega), if_pos rfl]
        have := one l (i + 1) (a + 1) (.inr rfl) nd m2' (by rw [ev]; rw [← e1]; exact nx)
        have ex : vx a x = a + 1 := by rw [e1]; unfold vx; rw [if_pos rfl]
        rw [ex]
        rw [beq_eq_false_iff_ne.mpr (show x ≠ a + 1 by omega), e1]
        simp only [beq_self_eq_true, cond_true, cond_false]
        show i * (a + 1) + ws (i + 1) (l.map (vx a)) = i * a + ws (i + 1) l + _
        rw [this, ev, Int.mul_add]
        have e3 : a - (a + 1) = -1 := by omega
        rw [e3]
        omega
      · by_cases e2 : x = a + 1
        · have m1' : a ∈ l := by rcases m1 with h | h; omega; exact h
          have ev : vx a a = a + 1 := by unfold vx; rw [if_pos rfl]
          have := one l (i + 1) a (.inl rfl) nd m1' (by rw [ev]; rw [← e2]; exact nx)
          have ex : vx a x = a := by rw [e2]; unfold vx; rw [if_neg (by omega), if_pos rfl]
          rw [ex]
          rw [beq_eq_false_iff_ne.mpr (show x ≠ a by omega), e2]
          simp only [beq_self_eq_true, cond_true, cond_false]
          show i * a + ws (i + 1) (l.map (vx a)) = i * (a + 1) + ws (i + 1) l + _
          rw [this, ev, Int.mul_add]
          have e3 : a + 1 - a = 1 := by omega
          rw [e3]
          omega
        · have m1' : a ∈ l := by rcases m1 with h | h; omega; exact h
          have m2' : a + 1 ∈ l := by rcases m2 with h | h; omega; exact h
          have ex : vx a x = x := by unfold vx; rw [if_neg e1, if_neg e2]
          rw [ex, beq_eq_false_iff_ne.mpr e1, beq_eq_false_iff_ne.mpr e2]
          simp only [cond_false]
          show i * x + ws (i + 1) (l.map (vx a)) = i * x + ws (i + 1) l + _
          rw [ih (i + 1) nd m1' m2']
          omega
  exact key r 0 h.nodup (h.mem.mpr (by omega)) (h.mem.mpr (by omega))
/-- the measure, upside down -/
def mu (n : Nat) (r : List Int) : Nat := ((n : Int) * (n * n) - ws 0 r).toNat
theorem mu_bd {n : Nat} {r : List Int} (h : IsRow n r) : 0 ≤ ws 0 r ∧ ws 0 r ≤ (n : Int) * (n * n) := by
  have := ws_bd r 0 n (by omega) (by rw [h.len]; omega) fun x hx => by have := h.mem.mp hx; omega
  rw [h.len] at this
  exact this
theorem mu_le {n : Nat} {r : List Int} (h : IsRow n r) : mu n r ≤ n * (n * n) := by
  have := mu_bd h
  unfold mu
  have e : ((n * (n * n) : Nat) : Int) = (n : Int) * (n * n) := by simp
  omega
theorem mu_swp {n : Nat} {r : List Int} {k : Nat} (h : IsRow n r) (hk : k + 1 < n) (hd : r.getD (k + 1) 0 < r.getD k 0) : mu n (swp r k) < mu n r := by
  have e := ws_swp (r := r) (k := k) (by rw [h.len]; exact hk)
  have b1 := mu_bd (h.swp hk)
  have b2 := mu_bd h
  unfold mu
  omega
theorem mu_vsw {n : Nat} {r : List Int} {a : Int} (h : IsRow n r) (h0 : 0 ≤ a) (h1 : a + 1 < (n : Int)) (hd : r.idxOf (a + 1) < r.idxOf a) : mu n (vsw r a) < mu n r := by
  have e := ws_vsw h h0 h1
  have b1 := mu_bd (h.vsw h0 h1)
  have b2 := mu_bd h
  unfold mu
  omega
/-- without drops a row is the plain one -/
theorem plain_of_up {n : Nat} {r : List Int} (h : IsRow n r) (hu : ∀ k, k + 1 < n → ¬ r.getD (k + 1) 0 < r.getD k 0) : r = rng n := by
  have sR : r.Pairwise (fun a b => a ≤ b) := by
    have go : ∀ (l : List Int), (∀ k, k + 1 < l.length → ¬ l.getD (k + 1) 0 < l.getD k 0) → l.Pairwise fun a b => a ≤ b := by
      intro l
      induction l with
      | nil => intro _; exact .nil
      | cons x l ih =>
        intro h
        have p := ih fun k hk => by
          have := h (k + 1) (by rw [List.length_cons]; omega)
          simpa [List.getD_eq_getElem?_getD] using this
        refine .cons (fun y hy => ?_) p
        cases l with
        | nil => simp at hy
        | cons z l =>
          have h0 := h 0 (by simp)
          simp [List.getD_eq_getElem?_getD] at h0
          rcases List.mem_cons.mp hy with rfl | hy
          · omega
          · have := (List.pairwise_cons.mp p).1 y hy
            omega
    exact go r fun k hk => hu k (by rw [h.len] at hk; exact hk)
  have sP : (rng n).Pairwise (fun a b => a ≤ b) := by
    unfold rng
    refine List.Pairwise.map _ (fun a b hab => ?_) (List.pairwise_lt_range (n := n))
    omega
  exact List.Perm.eq_of_pairwise (le := fun a b => a ≤ b) (fun a b _ _ h1 h2 => by omega) sR sP h.perm
theorem plain_of_upV {n : Nat} {r : List Int} (h : IsRow n r) (hu : ∀ a : Nat, a + 1 < n → ¬ r.idxOf ((a : Int) + 1) < r.idxOf (a : Int)) : r = rng n := by
  have lt : ∀ a : Nat, a + 1 < n → r.idxOf (a : Int) < r.idxOf ((a : Int) + 1) := fun a ha => by
    have h1 := hu a ha
    have ma : (a : Int) ∈ r := h.mem.mpr (by omega)
    have mb : (a : Int) + 1 ∈ r := h.mem.mpr (by omega)
    have : r.idxOf (a : Int) ≠ r.idxOf ((a : Int) + 1) := by
      intro e
      have g1 := List.getElem_idxOf (List.idxOf_lt_length_iff.mpr ma)
      have g2 := List.getElem_idxOf (List.idxOf_lt_length_iff.mpr mb)
      have : r[r.idxOf (a : Int)]'(List.idxOf_lt_length_iff.mpr ma) = r[r.idxOf ((a : Int) + 1)]'(List.idxOf_lt_length_iff.mpr mb) := by
        congr 1
      rw [g1, g2] at this
      omega
    omega
  have lo : ∀ a : Nat, a < n → a ≤ r.idxOf (a : Int) := by
    intro a
    induction a with
    | zero => intro _; exact Nat.zero_le _
    | succ a ih =>
      intro ha
      have := ih (by omega)
      have := lt a ha
      have e : ((a + 1 : Nat) : Int) = (a : Int) + 1 := by omega
      rw [e]
      omega
  have hi : ∀ m : Nat, ∀ a : Nat, a + m + 1 = n → r.idxOf (a : Int) ≤ a := by
    intro m
    induction m with
    | zero =>
      intro a ha
      have ma : (a : Int) ∈ r := h.mem.mpr (by omega)
      have := List.idxOf_lt_length_iff.mpr ma
      rw [h.len] at this
      omega
    | succ m ih =>
      intro a ha
      have := ih (a + 1) (by omega)
      have h2 := lt a (by omega)
      have e : ((a + 1 : Nat) : Int) = (a : Int) + 1 := by omega
      rw [e] at this
      omega
  have eq : ∀ a : Nat, a < n → r.idxOf (a : Int) = a := fun a ha => Nat.le_antisymm (hi (n - 1 - a) a (by omega)) (lo a ha)
  refine List.ext_getElem (by rw [h.len, rng_len]) fun i h1 h2 => ?_
  have hn : i < n := by rw [h.len] at h1; exact h1
  have mi : (i : Int) ∈ r := h.mem.mpr (by omega)
  have g := List.getElem_idxOf (List.idxOf_lt_length_iff.mpr mi)
  have e := eq i hn
  have g2 : r[i] = (i : Int) := by
    rw [← g]
    congr 1
    exact e.symm
  rw [g2]
  have := rng_get hn
  rw [List.getElem?_eq_getElem h2] at this
  exact (Option.some.inj this).symm

/-! ### words to a row -/
inductive RWd (n : Nat) : List Int → List Int → Prop where
  | nil : RWd n [] (rng n)
  | snoc {w u : List Int} {k : Nat} : RWd n w u → k + 1 < n → upK u k → RWd n (w ++ [(k : Int)]) (swp u k)
inductive LWd (n : Nat) : List Int → List Int → Prop where
  | nil : LWd n [] (rng n)
  | cons {w u : List Int} {a : Int} : LWd n w u → 0 ≤ a → a + 1 < (n : Int) → upV u a → LWd n (a :: w) (vsw u a)
theorem RWd.row {n : Nat} {w u : List Int} (h : RWd n w u) : IsRow n u := by
  induction h with
  | nil => exact rng_row n
  | snoc _ hk _ ih => exact ih.swp hk
theorem LWd.row {n : Nat} {w u : List Int} (h : LWd n w u) : IsRow n u := by
  induction h with
  | nil => exact rng_row n
  | cons _ h0 h1 _ ih => exact ih.vsw h0 h1
theorem LWd.step {n : Nat} {r w : List Int} {a : Int} (h : IsRow n r) (h0 : 0 ≤ a) (h1 : a + 1 < (n : Int)) (hd : r.idxOf (a + 1) < r.idxOf a) (hw : LWd n w (vsw r a)) : LWd n (a :: w) r := by
  have := LWd.cons hw h0 h1 ((up_vsw h h0 h1).mpr (by unfold upV; omega))
  rwa [vsw_vsw] at this
theorem LWd.ex {n : Nat} : ∀ (m : Nat) {r : List Int}, IsRow n r → mu n r ≤ m → ∃ w, LWd n w r := by
  intro m
  induction m with
  | zero =>
    intro r h hm
    refine ⟨[], ?_⟩
    have : r = rng n := plain_of_upV h fun a ha hd => by
      have := mu_vsw h (a := a) (by omega) (by omega) hd
      omega
    rw [this]
    exact .nil
  | succ m ih =>
    intro r h hm
    by_cases q : ∀ a : Nat, a + 1 < n → ¬ r.idxOf ((a : Int) + 1) < r.idxOf (a : Int)
    · refine ⟨[], ?_⟩
      rw [plain_of_upV h q]
      exact .nil
    · simp only [Classical.not_forall, Classical.not_not] at q
      obtain ⟨a, ha, hd⟩ := q
      have := mu_vsw h (a := a) (by omega) (by omega) hd
      obtain ⟨w, hw⟩ := ih (h.vsw (a := a) (by omega) (by omega)) (by omega)
      exact ⟨_, hw.step h (by omega) (by omega) hd⟩

/-! ### sums of rows, by their coefficients -/
abbrev Vec := List Int → Nat → Int
def qx (f : Nat → Int) : Nat → Int
  | 0 => 0
  | i + 1 => f i
theorem qx_add (f g : Nat → Int) (i : Nat) : qx (fun j => f j + g j) i = qx f i + qx g i := by cases i <;> rfl
theorem qx_sub (f g : Nat → Int) (i : Nat) : qx (fun j => f j - g j) i = qx f i - qx g i := by cases i <;> rfl
theorem qx_mul (c : Int) (f : Nat → Int) (i : Nat) : qx (fun j => c * f j) i = c * qx f i := by
  cases i
  · show (0 : Int) = c * 0; omega
  · rfl
def Rk (k : Nat) (F : Vec) : Vec := fun r i => if upK r k then qx (F (swp r k)) i else F (swp r k) i + (qx (F r) i - F r i)
def La (a : Int) (F : Vec) : Vec := fun r i => if upV r a then qx (F (vsw r a)) i else F (vsw r a) i + (qx (F r) i - F r i)
/-- equal at all rows -/
def EqR (n : Nat) (F G : Vec) : Prop := ∀ r, IsRow n r → F r = G r
section
variable {n : Nat} {F G : Vec} {k : Nat} {a : Int}
theorem EqR.refl (F : Vec) : EqR n F F := fun _ _ => rfl
theorem EqR.symm (h : EqR n F G) : EqR n G F := fun r hr => (h r hr).symm
theorem EqR.trans {H : Vec} (h : EqR n F G) (h2 : EqR n G H) : EqR n F H := fun r hr => (h r hr).trans (h2 r hr)
theorem EqR.rk (h : EqR n F G) (hk : k + 1 < n) : EqR n (Rk k F) (Rk k G) := fun r hr => by
  funext i
  unfold Rk
  rw [h r hr, h _ (hr.swp hk)]
theorem EqR.la (h : EqR n F G) (h0 : 0 ≤ a) (h1 : a + 1 < (n : Int)) : EqR n (La a F) (La a G) := fun r hr => by
  funext i
  unfold La
  rw [h r hr, h _ (hr.vsw h0 h1)]
theorem RL (F : Vec) (hk : k + 1 < n) (h0 : 0 ≤ a) (h1 : a + 1 < (n : Int)) : EqR n (Rk k (La a F)) (La a (Rk k F)) := by
  intro r hr
  by_cases hs : same2 r k a
  · obtain ⟨e1, e2⟩ := upV_same hr hk hs
    have same : ∀ (G : Vec), Rk k G r = La a G r := fun G => by
      funext i
      unfold Rk La
      rw [e1]
      by_cases h : upK r k
      · rw [if_pos h, if_pos (e2.mpr h)]
      · rw [if_neg h, if_neg (fun z => h (e2.mp z))]
    have hr' := hr.swp hk
    have hs' : same2 (swp r k) k a := by
      have l : k + 1 < r.length := by rw [hr.len]; exact hk
      unfold same2 at hs ⊢
      obtain ⟨A, x, y, B, rfl, rfl⟩ := split2 l
      rw [swp_at, get_at, get_at1]
      rw [get_at, get_at1] at hs
      omega
    obtain ⟨f1, f2⟩ := upV_same hr' hk hs'
    have same' : ∀ (G : Vec), Rk k G (swp r k) = La a G (swp r k) := fun G => by
      funext i
      unfold Rk La
      rw [f1]
      by_cases h : upK (swp r k) k
      · rw [if_pos h, if_pos (f2.mpr h)]
      · rw [if_neg h, if_neg (fun z => h (f2.mp z))]
    rw [← same]
    funext i
    show (if upK r k then qx (La a F (swp r k)) i else La a F (swp r k) i + (qx (La a F r) i - La a F r i)) = (if upK r k then qx (Rk k F (swp r k)) i else Rk k F (swp r k) i + (qx (Rk k F r) i - Rk k F r i))
    rw [same, same']
  · have l : k + 1 < r.length := by rw [hr.len]; exact hk
    have e1 := upK_vsw hr hk hs
    have e2 := upV_swp hr hk hs
    have e3 := vsw_swp r k a l
    funext i
    have R : ∀ (x : List Int) (j : Nat), Rk k F x j = if upK x k then qx (F (swp x k)) j else F (swp x k) j + (qx (F x) j - F x j) := fun _ _ => rfl
    have L : ∀ (x : List Int) (j : Nat), La a F x j = if upV x a then qx (F (vsw x a)) j else F (vsw x a) j + (qx (F x) j - F x j) := fun _ _ => rfl
    show (if upK r k then qx (La a F (swp r k)) i else La a F (swp r k) i + (qx (La a F r) i - La a F r i)) = (if upV r a then qx (Rk k F (vsw r a)) i else Rk k F (vsw r a) i + (qx (Rk k F r) i - Rk k F r i))
    by_cases c1 : upK r k <;> by_cases c2 : upV r a
    · rw [if_pos c1, if_pos c2]
      have a1 : La a F (swp r k) = fun j => qx (F (vsw (swp r k) a)) j := funext fun j => by rw [L, if_pos (e2.mpr c2)]
      have a2 : Rk k F (vsw r a) = fun j => qx (F (swp (vsw r a) k)) j := funext fun j => by rw [R, if_pos (e1.mpr c1)]
      rw [a1, a2, e3]
    · rw [if_pos c1, if_neg c2]
      have a1 : La a F (swp r k) = fun j => F (vsw (swp r k) a) j + (qx (F (swp r k)) j - F (swp r k) j) := funext fun j => by rw [L, if_neg (fun z => c2 (e2.mp z))]
      have a2 : Rk k F (vsw r a) = fun j => qx (F (swp (vsw r a) k)) j := funext fun j => by rw [R, if_pos (e1.mpr c1)]
      have a3 : Rk k F r = fun j => qx (F (swp r k)) j := funext fun j => by rw [R, if_pos c1]
      rw [a1, a2, a3, e3, qx_add, qx_sub]
    · rw [if_neg c1, if_pos c2]
      have a1 : La a F (swp r k) = fun j => qx (F (vsw (swp r k) a)) j := funext fun j => by rw [L, if_pos (e2.mpr c2)]
      have a2 : Rk k F (vsw r a) = fun j => F (swp (vsw r a) k) j + (qx (F (vsw r a)) j - F (vsw r a) j) := funext fun j => by rw [R, if_neg (fun z => c1 (e1.mp z))]
      have a3 : La a F r = fun j => qx (F (vsw r a)) j := funext fun j => by rw [L, if_pos c2]
      rw [a1, a2, a3, e3, qx_add, qx_sub]
    · rw [if_neg c1, if_neg c2]
      have a1 : La a F (swp r k) = fun j => F (vsw (swp r k) a) j + (qx (F (swp r k)) j - F (swp r k) j) := funext fun j => by rw [L, if_neg (fun z => c2 (e2.mp z))]
      have a2 : Rk k F (vsw r a) = fun j => F (swp (vsw r a) k) j + (qx (F (vsw r a)) j - F (vsw r a) j) := funext fun j => by rw [R, if_neg (fun z => c1 (e1.mp z))]
      have a3 : La a F r = fun j => F (vsw r a) j + (qx (F r) j - F r j) := funext fun j => by rw [L, if_neg c2]
      have a4 : Rk k F r = fun j => F (swp r k) j + (qx (F r) j - F r j) := funext fun j => by rw [R, if_neg c1]
      rw [a1, a2, a3, a4, e3, qx_add, qx_sub, qx_add, qx_sub]
      dsimp only
      omega
/-- one row, once -/
def Te (p : Nat → Int) (u : List Int) : Vec := fun r i => if r = u then p i else 0
theorem swp_inj {r u : List Int} (l : k + 1 < r.length) (e : swp r k = u) : r = swp u k := by rw [← e, swp_swp l]
variable {p : Nat → Int}
theorem Te_no {u r : List Int} (h : r ≠ u) : Te p u r = fun _ => 0 := by funext i; unfold Te; rw [if_neg h]
theorem Te_at (u : List Int) : Te p u u = p := by funext i; unfold Te; rw [if_pos rfl]
theorem qx_0 (i : Nat) : qx (fun _ => 0) i = 0 := by cases i <;> rfl
theorem Rk_Te {u : List Int} (hu : IsRow n u) (hk : k + 1 < n) (up : upK u k) : EqR n (Rk k (Te p u)) (Te p (swp u k)) := by
  intro r hr
  funext i
  have lr : k + 1 < r.length := by rw [hr.len]; exact hk
  have lu : k + 1 < u.length := by rw [hu.len]; exact hk
  unfold Rk
  split
  · rename_i h
    have h1 : swp r k ≠ u := fun e => (up_swp hr hk).mp (by rw [e]; exact up) h
    have h2 : r ≠ swp u k := fun e => by
      rw [e] at h
      exact (up_swp hu hk).mp h up
    rw [Te_no h1, Te_no h2, qx_0]
  · rename_i h
    have h1 : r ≠ u := fun e => h (by rw [e]; exact up)
    rw [Te_no h1, qx_0]
    by_cases c : r = swp u k
    · rw [c, swp_swp lu, Te_at, Te_at]
      dsimp only
      omega
    · rw [Te_no c, Te_no (fun z => c (swp_inj lr z))]
      rfl
theorem La_Te {u : List Int} (hu : IsRow n u) (h0 : 0 ≤ a) (h1 : a + 1 < (n : Int)) (up : upV u a) : EqR n (La a (Te p u)) (Te p (vsw u a)) := by
  intro r hr
  funext i
  unfold La
  split
  · rename_i h
    have h3 : vsw r a ≠ u := fun e => (up_vsw hr h0 h1).mp (by rw [e]; exact up) h
    have h2 : r ≠ vsw u a := fun e => by
      rw [e] at h
      exact (up_vsw hu h0 h1).mp h up
    rw [Te_no h3, Te_no h2, qx_0]
  · rename_i h
    have h3 : r ≠ u := fun e => h (by rw [e]; exact up)
    rw [Te_no h3, qx_0]
    by_cases c : r = vsw u a
    · rw [c, vsw_vsw, Te_at, Te_at]
      dsimp only
      omega
    · rw [Te_no c, Te_no (fun z => c (by rw [← z, vsw_vsw]))]
      rfl
/-- a word of swaps -/
def Rw : List Int → Vec → Vec
  | [], F => F
  | k :: w, F => Rw w (Rk k.toNat F)
def Lw : List Int → Vec → Vec
  | [], F => F
  | a :: v, F => La a (Lw v F)
def Wd (n : Nat) (w : List Int) : Prop := ∀ k ∈ w, 0 ≤ k ∧ k + 1 < (n : Int)
theorem RWd.wd {w u : List Int} (h : RWd n w u) : Wd n w := by
  induction h with
  | nil => intro k hk; simp at hk
  | snoc _ hk _ ih =>
    intro j hj
    rcases List.mem_append.mp hj with h | h
    · exact ih j h
    · simp at h; subst h; omega
theorem LWd.wd {w u : List Int} (h : LWd n w u) : Wd n w := by
  induction h with
  | nil => intro k hk; simp at hk
  | cons _ h0 h1 _ ih =>
    intro j hj
    rcases List.mem_cons.mp hj with rfl | h
    · exact ⟨h0, h1⟩
    · exact ih j h
theorem EqR.rw : ∀ {w : List Int} {F G : Vec}, EqR n F G → Wd n w → EqR n (Rw w F) (Rw w G)
  | [], _, _, h, _ => h
  | k :: w, _, _, h, hw => by
    have := hw k (by simp)
    exact EqR.rw (w := w) (h.rk (k := k.toNat) (by omega)) fun j hj => hw j (by simp [hj])
theorem Rw_append : ∀ (w v : List Int) (F : Vec), Rw (w ++ v) F = Rw v (Rw w F)
  | [], _, _ => rfl
  | k :: w, v, F => Rw_append w v (Rk k.toNat F)
theorem RLw (h0 : 0 ≤ a) (h1 : a + 1 < (n : Int)) : ∀ (w : List Int) (F : Vec), Wd n w → EqR n (Rw w (La a F)) (La a (Rw w F))
  | [], F, _ => EqR.refl _
  | k :: w, F, hw => by
    have hk := hw k (by simp)
    have hw' : Wd n w := fun j hj => hw j (by simp [hj])
    exact (EqR.rw (RL F (k := k.toNat) (by omega) h0 h1) hw').trans (RLw h0 h1 w _ hw')
theorem RLv {w : List Int} (hw : Wd n w) : ∀ (v : List Int) (F : Vec), Wd n v → EqR n (Rw w (Lw v F)) (Lw v (Rw w F))
  | [], F, _ => EqR.refl _
  | a :: v, F, hv => by
    have ha := hv a (by simp)
    exact (RLw ha.1 ha.2 w _ hw).trans ((RLv hw v F fun j hj => hv j (by simp [hj])).la ha.1 ha.2)
theorem EqR.lw : ∀ {v : List Int} {F G : Vec}, EqR n F G → Wd n v → EqR n (Lw v F) (Lw v G)
  | [], _, _, h, _ => h
  | a :: v, _, _, h, hv => by
    have ha := hv a (by simp)
    exact (EqR.lw h fun j hj => hv j (by simp [hj])).la ha.1 ha.2
theorem LWd.Lw {w u : List Int} (h : LWd n w u) : EqR n (Lw w (Te p (rng n))) (Te p u) := by
  induction h with
  | nil => exact EqR.refl _
  | cons h h0 h1 up ih => exact (ih.la h0 h1).trans (La_Te h.row h0 h1 up)
theorem RWd.Rw {w u : List Int} (h : RWd n w u) : EqR n (Rw w (Te p (rng n))) (Te p u) := by
  induction h with
  | nil => exact EqR.refl _
  | @snoc w u k h hk up ih =>
    rw [Rw_append]
    show EqR n (Rk ((k : Int)).toNat _) _
    rw [Int.toNat_natCast]
    exact (ih.rk hk).trans (Rk_Te h.row hk up)
theorem plain_same {a : Int} (h0 : 0 ≤ a) (h1 : a + 1 < (n : Int)) : same2 (rng n) a.toNat a := by
  have g : ∀ i, i < n → (rng n).getD i 0 = (i : Int) := fun i hi => by rw [List.getD_eq_getElem?_getD, rng_get hi]; rfl
  refine .inl ⟨by rw [g _ (by omega)]; omega, by rw [g _ (by omega)]; omega⟩
theorem LWd.Rw {w u : List Int} (h : LWd n w u) : EqR n (Rw w (Te p (rng n))) (Te p u) := by
  induction h with
  | nil => exact EqR.refl _
  | @cons w u a h h0 h1 up ih =>
    show EqR n (PV.Rw w (Rk a.toNat (Te p (rng n)))) _
    obtain ⟨e1, e2⟩ := upV_same (rng_row n) (k := a.toNat) (by omega) (plain_same h0 h1)
    have up0 : upK (rng n) a.toNat := by
      have g : ∀ i, i < n → (rng n).getD i 0 = (i : Int) := fun i hi => by rw [List.getD_eq_getElem?_getD, rng_get hi]; rfl
      unfold upK
      rw [g _ (by omega), g _ (by omega)]
      omega
    have s1 : EqR n (Rk a.toNat (Te p (rng n))) (La a (Te p (rng n))) := by
      refine (Rk_Te (rng_row n) (by omega) up0).trans ?_
      rw [e1]
      exact (La_Te (rng_row n) h0 h1 (e2.mpr up0)).symm
    exact (EqR.rw s1 h.wd).trans ((RLw h0 h1 w _ h.wd).trans ((ih.la h0 h1).trans (La_Te h.row h0 h1 up)))
/-- a word for a row -/
structure ForRow (n : Nat) (w u : List Int) : Prop where
  wd : Wd n w
  rw : ∀ p, EqR n (Rw w (Te p (rng n))) (Te p u)
theorem RWd.for {w u : List Int} (h : RWd n w u) : ForRow n w u := ⟨h.wd, fun p => h.Rw⟩
theorem LWd.for {w u : List Int} (h : LWd n w u) : ForRow n w u := ⟨h.wd, fun p => h.Rw⟩
/-- two words for one row do the same with each row -/
theorem two_Te {w w' u v : List Int} (h : ForRow n w u) (h' : ForRow n w' u) (hv : IsRow n v) : EqR n (Rw w (Te p v)) (Rw w' (Te p v)) := by
  obtain ⟨x, hx⟩ := LWd.ex (mu n v) hv (Nat.le_refl _)
  have one : ∀ w, ForRow n w u → EqR n (Rw w (Te p v)) (Lw x (Te p u)) := fun w h =>
    (EqR.rw hx.Lw.symm h.wd).trans ((RLv h.wd x _ hx.wd).trans (EqR.lw (h.rw p) hx.wd))
  exact (one w h).trans (one w' h').symm
/-! ### sums of such -/
def vadd (F G : Vec) : Vec := fun r i => F r i + G r i
theorem Rk_add (k : Nat) (F G : Vec) : Rk k (vadd F G) = vadd (Rk k F) (Rk k G) := by
  funext r i
  have e : ∀ x, vadd F G x = fun i => F x i + G x i := fun _ => rfl
  show (if upK r k then qx (vadd F G (swp r k)) i else vadd F G (swp r k) i + (qx (vadd F G r) i - vadd F G r i)) = (if upK r k then qx (F (swp r k)) i else F (swp r k) i + (qx (F r) i - F r i)) + (if upK r k then qx (G (swp r k)) i else G (swp r k) i + (qx (G r) i - G r i))
  rw [e, e, qx_add, qx_add]
  dsimp only
  split <;> omega
theorem Rw_add : ∀ (w : List Int) (F G : Vec), Rw w (vadd F G) = vadd (Rw w F) (Rw w G)
  | [], _, _ => rfl
  | k :: w, F, G => by
    show Rw w (Rk k.toNat (vadd F G)) = _
    rw [Rk_add]
    exact Rw_add w _ _
theorem Rk_0 (k : Nat) : Rk k (fun _ _ => 0) = fun _ _ => 0 := by
  funext r i
  unfold Rk
  split
  · exact qx_0 i
  · rw [qx_0]; rfl
theorem Rw_0 : ∀ w : List Int, Rw w (fun _ _ => 0) = fun _ _ => 0
  | [] => rfl
  | k :: w => by
    show Rw w (Rk k.toNat _) = _
    rw [Rk_0]
    exact Rw_0 w
/-- two words for one row do the same with each sum of rows -/
theorem two_words {w w' u : List Int} (h : ForRow n w u) (h' : ForRow n w' u) : ∀ (U : List (List Int)) (F : Vec), (∀ v ∈ U, IsRow n v) → (∀ r, IsRow n r → r ∉ U → F r = fun _ => 0) → EqR n (Rw w F) (Rw w' F)
  | [], F, _, hF => by
    have e : EqR n F (fun _ _ => 0) := fun r hr => hF r hr (by simp)
    have z1 := EqR.rw e h.wd
    have z2 := EqR.rw e h'.wd
    rw [Rw_0] at z1 z2
    exact z1.trans z2.symm
  | u0 :: U, F, hU, hF => by
    let G : Vec := fun r i => if r = u0 then 0 else F r i
    have e : F = vadd (Te (F u0) u0) G := by
      funext r i
      show F r i = (if r = u0 then F u0 i else 0) + (if r = u0 then 0 else F r i)
      by_cases c : r = u0
      · rw [if_pos c, if_pos c, c]; omega
      · rw [if_neg c, if_neg c]; omega
    have hG : ∀ r, IsRow n r → r ∉ U → G r = fun _ => 0 := fun r hr hn => by
      funext i
      show (if r = u0 then 0 else F r i) = 0
      by_cases c : r = u0
      · rw [if_pos c]
      · rw [if_neg c, hF r hr (by simp [c, hn])]
    have ih := two_words h h' U G (fun v hv => hU v (by simp [hv])) hG
    have t := two_Te (p := F u0) h h' (hU u0 (by simp))
    rw [e, Rw_add, Rw_add]
    intro r hr
    funext i
    show Rw w (Te (F u0) u0) r i + Rw w G r i = Rw w' (Te (F u0) u0) r i + Rw w' G r i
    rw [t r hr, ih r hr]
end
end PV

set_option Elab.async false
set_option linter.all false
set_option autoImplicit false
set_option maxRecDepth 100000
/-! PV24: steps on lists of ints. -/
namespace PV
open PySem PySem.Spec L2
section
variable {PT : Ev → Prop} {P : Sl × Ev → Prop} {PI : PyData × Ev → Prop} {Ps : Sl → Prop} {PM : List PyData × Ev → Prop} {PS : Fl × Ev → Prop} (env : Ev) (i j : Nat) (xs ys : List Int) (x : Int)
theorem zs_set (k : Nat) : (xs.map PyData.int).set k (.int x) = (xs.set k x).map PyData.int := (List.map_set).symm
theorem ix_zs (k : Int) (hk : 0 ≤ k) (hl : k < (xs.length : Int)) : ix2P (some (some (.lst (xs.map PyData.int)))) j (.int x) k env PT = PT (env.set j (some (.lst ((xs.set k.toNat x).map PyData.int)))) := by
  rw [ix2P_ap env j (.int x) (xs.map PyData.int) k hk (by rw [List.length_map]; exact hl), zs_set]
theorem ap_zs : apP (some (some (.lst (xs.map PyData.int)))) i (.int x) env P = (xs.length < 1000000 ∧ P (.imm .none, env.set i (some (.lst ((xs ++ [x]).map PyData.int))))) := by
  rw [apP_ap, List.length_map, List.map_append]
  rfl
theorem ap_z0 : apP (some (some (.lst []))) i (.int x) env P = P (.imm .none, env.set i (some (.lst ([x].map PyData.int)))) := by
  rw [apP_ap]
  exact propext ⟨fun h => h.2, fun h => ⟨by simp, h⟩⟩
theorem zs_erase (k : Nat) : (xs.map PyData.int).eraseIdx k = (xs.eraseIdx k).map PyData.int := by
  induction xs generalizing k with
  | nil => rfl
  | cons y ys ih =>
    cases k with
    | zero => rfl
    | succ k => show PyData.int y :: (ys.map PyData.int).eraseIdx k = _; rw [ih]; rfl
theorem po_zs (k : Int) (hk : 0 ≤ k) (hl : k < (xs.length : Int)) (hm : k ≤ 1000000000) : poP (some (some (.lst (xs.map PyData.int)))) i env k PI = PI (.int (at0 xs k), env.set i (some (.lst ((xs.eraseIdx k.toNat).map PyData.int)))) := by
  have e : k = ((k.toNat : Nat) : Int) := by omega
  rw [e, poP_ap env i (xs.map PyData.int) k.toNat (zs_at (by omega)) (by omega), zs_erase]
  rfl
theorem seq_zs : kSq PM (.list (xs.map PyData.int), env) = PM (xs.map PyData.int, env) := kSq_list ..
/-- tuple(list of ints), where what is told of it matters not -/
theorem tupP_any {ds : List PyData} (h : ∀ s, (s = .ft ds ∨ s = .imm (.tuple ds)) → Ps s) : tupP ds Ps := tupP_both (h _ (.inl rfl)) (h _ (.inr rfl))
end
/-! ### at0 -/
theorem at0_nat (xs : List Int) (k : Nat) : at0 xs (k : Int) = xs.getD k 0 := Eq.trans rfl rfl
theorem at0_nat1 (xs : List Int) (k : Nat) : at0 xs ((k : Int) + 1) = xs.getD (k + 1) 0 := Eq.trans rfl rfl
theorem toN1 (k : Nat) : ((k : Int) + 1).toNat = k + 1 := Eq.trans rfl rfl
theorem toN2 (k : Nat) : ((k : Int) + 2).toNat = k + 2 := Eq.trans rfl rfl
theorem rangeD_rng (n : Nat) : rangeD 0 (n : Int) = (rng n).map PyData.int := by
  unfold rangeD rng
  rw [List.map_map]
  have : ((n : Int) - 0).toNat = n := by omega
  rw [this]
  refine List.map_congr_left fun i _ => ?_
  show PyData.int (0 + (i : Nat)) = PyData.int ((i : Nat) : Int)
  rw [Int.zero_add]
theorem rangeD_sub (n : Nat) : rangeD 0 ((n : Int) - 1) = (rng (n - 1)).map PyData.int := by
  unfold rangeD rng
  rw [List.map_map]
  have : ((n : Int) - 1 - 0).toNat = n - 1 := by omega
  rw [this]
  refine List.map_congr_left fun i _ => ?_
  show PyData.int (0 + (i : Nat)) = PyData.int ((i : Nat) : Int)
  rw [Int.zero_add]
/-! ### sorted, index -/
theorem all_flat : ∀ xs : List Int, (xs.map PyData.int).all flatKey = true
  | [] => rfl
  | x :: xs => by simpa [flatKey] using all_flat xs
def ile (a b : Int) : Bool := decide (a ≤ b)
theorem mergeSort_map' {α β : Type} (f : α → β) (le : β → β → Bool) (le' : α → α → Bool) (h : ∀ a b, le (f a) (f b) = le' a b) (l : List α) : (l.map f).mergeSort le = (l.mergeSort le').map f := by
  rw [← List.map_mergeSort (f := f) (r := le') (s := le) (fun a _ b _ => (h a b).symm)]
theorem depth_flat (xs : List Int) : PyData.depthAll (xs.map PyData.int) = 0 := depth_zs xs
theorem sortOk_zs {xs : List Int} (h : xs.length ≤ 1000000) : SortOk (xs.map PyData.int) :=
  ⟨PySem.W.AllAlike.of fun a b => by simp [PySem.W.alike], .inr (all_flat xs), by rw [List.length_map]; exact h, by rw [depth_flat]; omega⟩
def sortZ (xs : List Int) : List Int := xs.mergeSort ile
theorem sortD_zs (xs : List Int) : sortD (xs.map PyData.int) = (sortZ xs).map PyData.int := by
  unfold sortD sortZ
  refine mergeSort_map' _ _ _ (fun a b => ?_) xs
  show (!PySem.W.dataLt (.int b) (.int a)) = decide (a ≤ b)
  rw [PySem.W.dataLt_int]
  by_cases h : b < a
  · rw [decide_eq_true h, decide_eq_false (by omega)]; rfl
  · rw [decide_eq_false h, decide_eq_true (by omega)]; rfl
theorem d_sort {Ps : Sl → Prop} (xs : List Int) : WP (sortedD1 (.list (xs.map PyData.int))) Ps = (xs.length ≤ 1000000 ∧ Ps (.lst ((sortZ xs).map PyData.int))) := by
  show WP (ok _ _) _ = _
  rw [wp_ok, wp_ret, sortD_zs]
  refine propext ⟨fun h => ⟨by have := h.1.2.2.1; rwa [List.length_map] at this, h.2⟩, fun h => ⟨sortOk_zs h.1, h.2⟩⟩
theorem d_sortT {Ps : Sl → Prop} (xs : List Int) : WP (sortedD1 (.tuple (xs.map PyData.int))) Ps = (xs.length ≤ 1000000 ∧ Ps (.lst ((sortZ xs).map PyData.int))) := by
  show WP (ok _ _) _ = _
  rw [wp_ok, wp_ret, sortD_zs]
  refine propext ⟨fun h => ⟨by have := h.1.2.2.1; rwa [List.length_map] at this, h.2⟩, fun h => ⟨sortOk_zs h.1, h.2⟩⟩
theorem sortZ_perm (xs : List Int) : (sortZ xs).Perm xs := List.mergeSort_perm xs ile
theorem sortZ_sorted (xs : List Int) : (sortZ xs).Pairwise (fun a b => a ≤ b) := by
  have := List.pairwise_mergeSort (le := ile) (fun a b c h1 h2 => by unfold ile at *; simp at *; omega) (fun a b => by unfold ile; simp; omega) xs
  exact this.imp fun h => by unfold ile at h; simpa using h
theorem rng_sorted (n : Nat) : (rng n).Pairwise (fun a b => a ≤ b) := by
  unfold rng
  refine List.Pairwise.map _ (fun a b hab => ?_) (List.pairwise_lt_range (n := n))
  omega
theorem sortZ_row {n : Nat} {r : List Int} (h : IsRow n r) : sortZ r = rng n :=
  List.Perm.eq_of_pairwise (le := fun a b => a ≤ b) (fun a b _ _ h1 h2 => by omega) (sortZ_sorted r) (rng_sorted n) ((sortZ_perm r).trans h.perm)
theorem firstAt_zs (x : Int) : ∀ xs : List Int, x ∈ xs → firstAt (.int x) (xs.map PyData.int) = some (xs.idxOf x)
  | [], h => by simp at h
  | y :: xs, h => by
    show (if PyData.eqv (.int y) (.int x) = true then some 0 else (firstAt (.int x) (xs.map PyData.int)).map (· + 1)) = _
    rw [eqv_ii, List.idxOf_cons]
    by_cases e : y = x
    · simp [e]
    · have hx : x ∈ xs := by
        rcases List.mem_cons.mp h with h | h
        · exact absurd h.symm e
        · exact h
      rw [if_neg (by simp [e]), firstAt_zs x xs hx, beq_eq_false_iff_ne.mpr e]
      rfl
theorem d_idxL {Ps : Sl → Prop} {xs : List Int} {x : Int} (h : x ∈ xs) : WP (indexLD (.list (xs.map PyData.int)) (.int x)) Ps = Ps (.imm (.int (xs.idxOf x : Nat))) := by
  show WP (ok _ _) _ = _
  rw [wp_ok, firstAt_zs x xs h]
  show (_ ∧ WP (Tr.ret _) Ps) = _
  rw [wp_ret]
  exact propext ⟨fun z => z.2, fun z => ⟨⟨sh_int x, sh_zL xs⟩, z⟩⟩
theorem d_idxT {Ps : Sl → Prop} {xs : List Int} {x : Int} (h : x ∈ xs) : WP (indexD (.tuple (xs.map PyData.int)) (.int x)) Ps = Ps (.imm (.int (xs.idxOf x : Nat))) := by
  show WP (ok _ _) _ = _
  rw [wp_ok, firstAt_zs x xs h]
  show (_ ∧ WP (Tr.ret _) Ps) = _
  rw [wp_ret]
  exact propext ⟨fun z => z.2, fun z => ⟨⟨sh_int x, sh_zT xs⟩, z⟩⟩
/-- two stores at the places of two things exchange them -/
theorem set_vsw {r : List Int} {a : Int} (nd : r.Nodup) (m1 : a ∈ r) (m2 : a + 1 ∈ r) : (r.set (r.idxOf a) (a + 1)).set (r.idxOf (a + 1)) a = vsw r a := by
  have l1 := List.idxOf_lt_length_iff.mpr m1
  have l2 := List.idxOf_lt_length_iff.mpr m2
  have g1 := List.getElem_idxOf l1
  have g2 := List.getElem_idxOf l2
  have inj : ∀ (i j : Nat) (hi : i < r.length) (hj : j < r.length), r[i] = r[j] → i = j := fun i j hi hj e => (List.getElem_inj nd).mp e
  unfold vsw
  refine List.ext_getElem (by simp) fun i h1 h2 => ?_
  have hi : i < r.length := by simpa using h1
  rw [List.getElem_map, List.getElem_set, List.getElem_set]
  unfold vx
  by_cases e2 : r.idxOf (a + 1) = i
  · subst e2
    rw [if_pos rfl, g2, if_neg (by omega), if_pos rfl]
  · rw [if_neg e2]
    have n2 : r[i] ≠ a + 1 := fun e => e2 (inj _ _ l2 hi (by rw [g2, e]))
    by_cases e1 : r.idxOf a = i
    · subst e1
      rw [if_pos rfl, g1, if_pos rfl]
    · rw [if_neg e1]
      have n1 : r[i] ≠ a := fun e => e1 (inj _ _ l1 hi (by rw [g1, e]))
      rw [if_neg n1, if_neg n2]
end PV

set_option Elab.async false
set_option linter.all false
set_option autoImplicit false
set_option maxRecDepth 100000
/-! PV25: steps on dicts; counting rows. -/
namespace PV
open PySem PySem.Spec L2
section
variable {P : Sl × Ev → Prop} {PS : Fl × Ev → Prop} (env : Ev) (i : Nat) (d e : PyData) (kvs : KD)
def dkO (o : Option (Option Sl)) : Option KD := match o with
  | some (some (.dT kvs)) => some kvs
  | some (some (.fT kvs)) => some kvs
  | _ => none
theorem dictAt_is : dictAt env i = dkO env[i]? := Eq.trans rfl rfl
theorem dkO_dT : dkO (some (some (.dT kvs))) = some kvs := Eq.trans rfl rfl
theorem dkO_fT : dkO (some (some (.fT kvs))) = some kvs := Eq.trans rfl rfl
theorem wp_dnewT : WP (mDnewT env) P = P (.dT [], env) := wp_ret ..
def dgP (o : Option KD) (k : Option (List Key)) (e : PyData) (env : Ev) (P : Sl × Ev → Prop) : Prop := match o, k with
  | some kvs, some ks => P (.imm ((valD kvs ks).getD e), env)
  | _, _ => False
def kDg2 (i : Nat) (d : PyData) (P : Sl × Ev → Prop) : PyData × Ev → Prop := fun z => dgP (dictAt z.2 i) (keyD d) z.1 z.2 P
theorem kDg2_ap : kDg2 i d P (e, env) = dgP (dkO env[i]?) (keyD d) e env P := Eq.trans rfl rfl
def kDg1 (i : Nat) (n : MI) (P : Sl × Ev → Prop) : PyData × Ev → Prop := fun y => WP (n y.2) (kDg2 i y.1 P)
theorem kDg1_ap (n : MI) : kDg1 i n P (d, env) = WP (n env) (kDg2 i d P) := Eq.trans rfl rfl
theorem isSome_some {α : Type} (a : α) : (some a).isSome = true := Eq.trans rfl rfl
theorem wp_dget2 (m n : MI) : WP (mDget2 i m n env) P = ((dkO env[i]?).isSome = true ∧ WP (m env) (kDg1 i n P)) := by
  unfold mDget2
  rw [dictAt_is]
  cases h : dkO env[i]? with
  | none => simp only [wp_bad, Option.isSome_none, Bool.false_eq_true, false_and]
  | some kv0 =>
    simp only [Option.isSome_some, true_and, wp_bind]
    refine congrArg (WP (m env)) (funext fun y => ?_)
    refine congrArg (WP (n y.2)) (funext fun z => ?_)
    unfold kDg2 dgP
    cases dictAt z.2 i <;> cases keyD y.1 <;> first | exact wp_bad _ | exact wp_ret ..
def dpP (o : Option (Option Sl)) (k : Option (List Key)) (i : Nat) (v : PyData) (env : Ev) (P : Fl × Ev → Prop) : Prop := match o, k with
  | some (some (.dT kvs)), some ks => kvs.length < 1000000 ∧ P (.nx, env.set i (some (.dT (putT kvs ks v))))
  | _, _ => False
def kDp2 (i : Nat) (v : PyData) (P : Fl × Ev → Prop) : PyData × Ev → Prop := fun y => dpP y.2[i]? (keyD y.1) i v y.2 P
theorem kDp2_ap (v : PyData) : kDp2 i v PS (d, env) = dpP env[i]? (keyD d) i v env PS := Eq.trans rfl rfl
def kDp1 (i : Nat) (mk : MI) (P : Fl × Ev → Prop) : PyData × Ev → Prop := fun v => (dkO v.2[i]?).isSome = true ∧ WP (mk v.2) (kDp2 i v.1 P)
theorem kDp1_ap (mk : MI) (v : PyData) : kDp1 i mk PS (v, env) = ((dkO env[i]?).isSome = true ∧ WP (mk env) (kDp2 i v PS)) := Eq.trans rfl rfl
theorem wp_dput (mk mv : MI) : WP (sDput i mk mv env) PS = WP (mv env) (kDp1 i mk PS) := by
  unfold sDput
  rw [wp_bind]
  refine congrArg (WP (mv env)) (funext fun v => ?_)
  unfold kDp1
  rw [dictAt_is]
  cases h : dkO v.2[i]? with
  | none => simp only [wp_bad, Option.isSome_none, Bool.false_eq_true, false_and]
  | some kv0 =>
    simp only [Option.isSome_some, true_and, wp_bind]
    refine congrArg (WP (mk v.2)) (funext fun y => ?_)
    unfold kDp2
    generalize y.2[i]? = o
    generalize keyD y.1 = k
    rcases o with _ | _ | s
    · exact wp_bad _
    · exact wp_bad _
    · cases s <;> cases k <;> first | exact wp_bad _ | (show WP (ok _ _) _ = _; rw [wp_ok, wp_ret]; rfl)
def deP (o : Option KD) (env : Ev) (P : Sl × Ev → Prop) : Prop := match o with
  | some kvs => P (.dT (mergeD [] kvs), env)
  | none => False
theorem deP_ap : deP (some kvs) env P = P (.dT (mergeD [] kvs), env) := Eq.trans rfl rfl
def kDE (P : Sl × Ev → Prop) : Sl × Ev → Prop := fun x => match x.1 with
  | .lst ds => deP (pairsD ds) x.2 P
  | .imm (.list ds) => deP (pairsD ds) x.2 P
  | .ft ds => deP (pairsD ds) x.2 P
  | _ => False
theorem kDE_lst (ds : List PyData) : kDE P (.lst ds, env) = deP (pairsD ds) env P := Eq.trans rfl rfl
theorem kDE_imm (ds : List PyData) : kDE P (.imm (.list ds), env) = deP (pairsD ds) env P := Eq.trans rfl rfl
theorem kDE_ft (ds : List PyData) : kDE P (.ft ds, env) = deP (pairsD ds) env P := Eq.trans rfl rfl
theorem wp_dictE (m : ME) : WP (mDictE m env) P = WP (m env) (kDE P) := by
  unfold mDictE
  rw [wp_bind]
  refine congrArg (WP (m env)) (funext fun x => ?_)
  obtain ⟨s, en⟩ := x
  unfold kDE deP
  cases s with
  | imm d => cases d <;> first | exact wp_bad _ | (rename_i ds; dsimp only; cases pairsD ds <;> first | exact wp_bad _ | exact wp_ret ..)
  | lst ds => dsimp only; cases pairsD ds <;> first | exact wp_bad _ | exact wp_ret ..
  | ft ds => dsimp only; cases pairsD ds <;> first | exact wp_bad _ | exact wp_ret ..
  | _ => exact wp_bad _
end
theorem wp_eq {α : Type} {t : Tr α} {a : α} {P : α → Prop} (h : t = .ret a) (p : P a) : WP t P := by rw [h, wp_ret]; exact p
theorem wp_all {α : Type} {t : Tr α} {P : α → Prop} (h : t.all P) : WP t P := by rw [wp_is]; exact h
/-! ### all rows -/
def ins (x : Int) : List Int → List (List Int)
  | [] => [[x]]
  | y :: l => (x :: y :: l) :: (ins x l).map (y :: ·)
def perms : List Int → List (List Int)
  | [] => [[]]
  | x :: l => (perms l).flatMap (ins x)
theorem mem_ins (x : Int) (b : List Int) : ∀ a : List Int, a ++ x :: b ∈ ins x (a ++ b)
  | [] => by cases b <;> simp [ins]
  | y :: a => by
    show y :: (a ++ x :: b) ∈ (x :: y :: (a ++ b)) :: (ins x (a ++ b)).map (y :: ·)
    exact List.mem_cons_of_mem _ (List.mem_map_of_mem (mem_ins x b a))
theorem mem_perms : ∀ (l r : List Int), r.Perm l → r ∈ perms l
  | [], r, h => by
    have : r = [] := List.eq_nil_of_length_eq_zero (by rw [h.length_eq]; rfl)
    rw [this]
    simp [perms]
  | x :: l, r, h => by
    have hx : x ∈ r := h.symm.subset (by simp)
    obtain ⟨a, b, rfl⟩ := List.append_of_mem hx
    have h2 : (a ++ b).Perm l := (List.perm_cons x).mp (List.perm_middle.symm.trans h)
    unfold perms
    rw [List.mem_flatMap]
    exact ⟨a ++ b, mem_perms l _ h2, mem_ins x b a⟩
theorem rows_len {n : Nat} (h : n ≤ 5) {R : List (List Int)} (nd : R.Nodup) (hR : ∀ r ∈ R, IsRow n r) : R.length ≤ 120 := by
  refine Nat.le_trans (nd.length_le_of_subset (l₂ := perms (rng n)) fun r hr => mem_perms _ _ (hR r hr).perm) ?_
  have : n = 0 ∨ n = 1 ∨ n = 2 ∨ n = 3 ∨ n = 4 ∨ n = 5 := by omega
  rcases this with rfl | rfl | rfl | rfl | rfl | rfl <;> decide +kernel
end PV

set_option Elab.async false
set_option linter.all false
set_option autoImplicit false
set_option maxRecDepth 100000
/-! PVi: how many pairs are out of order; how long words are. -/
namespace PV
def inv : List Int → Nat
  | [] => 0
  | x :: l => l.countP (fun y => decide (y < x)) + inv l
def tri : Nat → Nat
  | 0 => 0
  | n + 1 => n + tri n
theorem inv_le : ∀ l : List Int, inv l ≤ tri l.length
  | [] => Nat.le_refl _
  | x :: l => by
    have h1 := inv_le l
    have h2 := List.countP_le_length (p := fun y => decide (y < x)) (l := l)
    show _ + _ ≤ l.length + tri l.length
    omega
def cross (A C : List Int) : Nat := (A.map fun a => C.countP fun y => decide (y < a)).sum
theorem inv_append : ∀ A C : List Int, inv (A ++ C) = inv A + inv C + cross A C
  | [], C => by simp [inv, cross]
  | a :: A, C => by
    show (A ++ C).countP (fun y => decide (y < a)) + inv (A ++ C) = A.countP _ + inv A + inv C + cross (a :: A) C
    rw [inv_append A C, List.countP_append]
    have : cross (a :: A) C = C.countP (fun y => decide (y < a)) + cross A C := by unfold cross; rw [List.map_cons, List.sum_cons]
    rw [this]
    omega
theorem cross_perm {A C D : List Int} (h : C.Perm D) : cross A C = cross A D := by
  unfold cross
  congr 1
  exact List.map_congr_left fun a _ => h.countP_eq _
theorem inv_swp {r : List Int} {k : Nat} (h : k + 1 < r.length) (up : upK r k) : inv (swp r k) = inv r + 1 := by
  obtain ⟨A, x, y, B, rfl, rfl⟩ := split2 h
  rw [upK_at] at up
  rw [swp_at, inv_append, inv_append, cross_perm (A := A) (List.Perm.swap x y B)]
  show _ + ((x :: B).countP _ + (B.countP _ + inv B)) + _ = _ + ((y :: B).countP _ + (B.countP _ + inv B)) + _ + 1
  rw [List.countP_cons, List.countP_cons]
  rw [if_pos (by simpa using up), if_neg (by simp; omega)]
  omega
theorem countP_vx {a x : Int} (h1 : x ≠ a) (h2 : x ≠ a + 1) : ∀ l : List Int, (l.map (vx a)).countP (fun y => decide (y < x)) = l.countP fun y => decide (y < x)
  | [] => rfl
  | y :: l => by
    rw [List.map_cons, List.countP_cons, List.countP_cons, countP_vx h1 h2 l]
    congr 1
    have : decide (vx a y < x) = decide (y < x) := by
      have : (vx a y < x) ↔ y < x := by unfold vx; split <;> (try split) <;> omega
      rw [decide_eq_decide]; exact this
    rw [this]
theorem inv_vsw_none {a : Int} : ∀ l : List Int, (a ∉ l ∨ a + 1 ∉ l) → l.Nodup → inv (l.map (vx a)) = inv l
  | [], _, _ => rfl
  | x :: l, h, nd => by
    obtain ⟨nx, nd⟩ := List.nodup_cons.mp nd
    have h' : a ∉ l ∨ a + 1 ∉ l := by
      rcases h with h | h
      · exact .inl fun z => h (by simp [z])
      · exact .inr fun z => h (by simp [z])
    show (l.map (vx a)).countP _ + inv (l.map (vx a)) = l.countP _ + inv l
    rw [inv_vsw_none l h' nd]
    congr 1
    by_cases e1 : x = a
    · have hn : a + 1 ∉ l := by
        rcases h with h | h
        · exact absurd (by simp [e1]) h
        · exact fun z => h (by simp [z])
      have hn2 : a ∉ l := by rw [← e1]; exact nx
      rw [ws_fix a l 0 hn2 hn]
      refine List.countP_congr fun y hy => ?_
      have : y ≠ a := fun z => hn2 (z ▸ hy)
      have : vx a x = a + 1 := by rw [e1]; unfold vx; rw [if_pos rfl]
      simp only [this, decide_eq_true_eq]
      omega
    · by_cases e2 : x = a + 1
      · have hn : a ∉ l := by
          rcases h with h | h
          · exact fun z => h (by simp [z])
          · exact absurd (by simp [e2]) h
        have hn2 : a + 1 ∉ l := by rw [← e2]; exact nx
        rw [ws_fix a l 0 hn hn2]
        refine List.countP_congr fun y hy => ?_
        have : y ≠ a := fun z => hn (z ▸ hy)
        have : vx a x = a := by rw [e2]; unfold vx; rw [if_neg (by omega), if_pos rfl]
        simp only [this, decide_eq_true_eq]
        omega
      · have : vx a x = x := by unfold vx; rw [if_neg e1, if_neg e2]
        rw [this]
        exact countP_vx e1 e2 l
theorem inv_vsw_up {a : Int} : ∀ l : List Int, l.Nodup → a ∈ l → a + 1 ∈ l → l.idxOf a < l.idxOf (a + 1) → inv (l.map (vx a)) = inv l + 1
  | [], _, h, _, _ => by simp at h
  | x :: l, nd, m1, m2, up => by
    obtain ⟨nx, nd⟩ := List.nodup_cons.mp nd
    rw [List.idxOf_cons, List.idxOf_cons] at up
    simp only [List.mem_cons] at m1 m2
    show (l.map (vx a)).countP _ + inv (l.map (vx a)) = l.countP _ + inv l + 1
    by_cases e1 : x = a
    · have hb : a + 1 ∈ l := by rcases m2 with h | h; omega; exact h
      have hn2 : a ∉ l := by rw [← e1]; exact nx
      rw [inv_vsw_none l (.inl hn2) nd]
      have e3 : vx a x = a + 1 := by rw [e1]; unfold vx; rw [if_pos rfl]
      rw [e3, e1]
      have key : ∀ l : List Int, l.Nodup → a ∉ l → a + 1 ∈ l → (l.map (vx a)).countP (fun y => decide (y < a + 1)) = l.countP (fun y => decide (y < a)) + 1 := by
        intro l
        induction l with
        | nil => intro _ _ h; simp at h
        | cons y l ih =>
          intro nd hn hm
          obtain ⟨ny, nd⟩ := List.nodup_cons.mp nd
          simp only [List.mem_cons, not_or] at hn hm
          rw [List.map_cons, List.countP_cons, List.countP_cons]
          by_cases e : y = a + 1
          · have hz : a + 1 ∉ l := by rw [← e]; exact ny
            have ev : vx a y = a := by rw [e]; unfold vx; rw [if_neg (by omega), if_pos rfl]
            rw [ws_fix a l 0 hn.2 hz, ev, e]
            rw [if_pos (by simp; omega), if_neg (by simp; omega)]
            have : l.countP (fun y => decide (y < a + 1)) = l.countP fun y => decide (y < a) := List.countP_congr fun z hz => by
              have : z ≠ a := fun q => hn.2 (q ▸ hz)
              simp only [decide_eq_true_eq]
              omega
            rw [this]
          · have hm' : a + 1 ∈ l := by rcases hm with h | h; exact absurd h.symm e; exact h
            have ev : vx a y = y := by unfold vx; rw [if_neg (fun z => hn.1 z.symm), if_neg e]
            rw [ih nd hn.2 hm', ev]
            have : decide (y < a + 1) = decide (y < a) := by
              rw [decide_eq_decide]
              have := hn.1
              omega
            rw [this]
            omega
      rw [key l nd hn2 hb]
      omega
    · by_cases e2 : x = a + 1
      · rw [beq_eq_false_iff_ne.mpr e1, e2] at up
        simp at up
      · have m1' : a ∈ l := by rcases m1 with h | h; exact absurd h.symm e1; exact h
        have m2' : a + 1 ∈ l := by rcases m2 with h | h; exact absurd h.symm e2; exact h
        rw [beq_eq_false_iff_ne.mpr e1, beq_eq_false_iff_ne.mpr e2] at up
        simp only [cond_false] at up
        have : vx a x = x := by unfold vx; rw [if_neg e1, if_neg e2]
        rw [this, countP_vx e1 e2 l, inv_vsw_up l nd m1' m2' (by omega)]
        omega
theorem inv_rng (n : Nat) : inv (rng n) = 0 := by
  have : ∀ l : List Int, l.Pairwise (fun a b => a ≤ b) → inv l = 0 := by
    intro l
    induction l with
    | nil => intro _; rfl
    | cons x l ih =>
      intro h
      obtain ⟨h1, h2⟩ := List.pairwise_cons.mp h
      show l.countP _ + inv l = 0
      rw [ih h2, List.countP_eq_zero.mpr fun y hy => by have := h1 y hy; simp; omega]
  exact this _ (rng_sorted n)
theorem RWd.len {n : Nat} {w u : List Int} (h : RWd n w u) : w.length = inv u := by
  induction h with
  | nil => rw [inv_rng]; rfl
  | snoc h hk up ih => rw [inv_swp (by rw [h.row.len]; exact hk) up, List.length_append, ih]; rfl
theorem LWd.len {n : Nat} {w u : List Int} (h : LWd n w u) : w.length = inv u := by
  induction h with
  | nil => rw [inv_rng]; rfl
  | cons h h0 h1 up ih =>
    unfold vsw
    rw [inv_vsw_up _ h.row.nodup (h.row.mem.mpr (by omega)) (h.row.mem.mpr (by omega)) up, List.length_cons, ih]
theorem tri_mono {m n : Nat} (h : m ≤ n) : tri m ≤ tri n := by
  induction h with
  | refl => exact Nat.le_refl _
  | step _ ih => exact Nat.le_trans ih (Nat.le_add_left _ _)
theorem inv5 {n : Nat} {u : List Int} (h : IsRow n u) (hn : n ≤ 5) : inv u ≤ 10 := by
  have := inv_le u
  rw [h.len] at this
  exact Nat.le_trans this (Nat.le_trans (tri_mono hn) (by decide))
/-! ### a word for each row -/
open Classical in
noncomputable def cw (n : Nat) (u : List Int) : List Int := if h : ∃ w, LWd n w u then h.choose else []
theorem cw_l {n : Nat} {u : List Int} (h : IsRow n u) : LWd n (cw n u) u := by
  have e : ∃ w, LWd n w u := LWd.ex _ h (Nat.le_refl _)
  unfold cw
  rw [dif_pos e]
  exact e.choose_spec
end PV

set_option Elab.async false
set_option linter.all false
set_option autoImplicit false
set_option maxRecDepth 100000
/-! PVs: a, b, .. = [e for x in ..], where the items keep what is told of them. -/
namespace PV
open PySem PySem.Spec L2
/-- items of slots -/
abbrev Rs (K : PySem.W.Frag) (Z : Hp) (S : Src) : List V → List Sl → Prop := Paired fun (v : V) (s : Sl) => s.own = false ∧ RSl K Z S (fun _ => none) v s
section
variable {K : PySem.W.Frag} {R Z Z' : Hp} {S : Src} {H H' : Hp} {σ : L2.St} {env : Ev}
theorem Rs.mono {vs : List V} {ss : List Sl} (e : Same Z Z') (h : Rs K Z S vs ss) : Rs K Z' S vs ss := Paired.mapP h fun v s q => ⟨q.1, q.2.mono e (fun a _ o => by rw [q.1] at o; cases o)⟩
theorem Rs.snoc {v : V} {s : Sl} (r : s.own = false ∧ RSl K Z S (fun _ => none) v s) : ∀ {vs : List V} {ss : List Sl}, Rs K Z S vs ss → Rs K Z S (vs ++ [v]) (ss ++ [s])
  | _, _, .nil => .cons r .nil
  | _, _, .cons h t => .cons h (Rs.snoc r t)
theorem Rs.len : ∀ {vs : List V} {ss : List Sl}, Rs K Z S vs ss → vs.length = ss.length
  | _, _, .nil => rfl
  | _, _, .cons _ t => congrArg (· + 1) (Rs.len t)
def setE : Ev → List Nat → List Sl → Ev
  | env, i :: is, s :: ss => setE (env.set i (some s)) is ss
  | env, _, _ => env
theorem sr_setE : ∀ (is : List Nat) (vs : List V) (ss : List Sl) {σ : L2.St} {env : Ev}, SR K R Z S H σ env → Rs K Z S vs ss → SR K R Z S H (setAll σ is vs) (setE env is ss)
  | [], vs, ss, _, _, q, _ => by unfold setAll setE; exact q
  | i :: is, _, _, _, _, q, .nil => q
  | i :: is, _, _, _, _, q, .cons r t => sr_setE is _ _ (q.setFree r.1 (RSl.any r.1 r.2)) t
end
def lcS (one : Bool) (is : List Nat) (tt : MT) (te : ME) : List PyData → Ev → Tr (List Sl × Ev)
  | [], env => .ret ([], env)
  | d :: ds, env => (tgNames one is d env).bind fun env1 => (tt env1).bind fun b => if b.1 = true then (te b.2).bind fun y => if y.1.own = true then .bad else (lcS one is tt te ds (wipeE is y.2)).bind fun r => .ret (y.1 :: r.1, r.2)
    else lcS one is tt te ds (wipeE is b.2)
def sLcs (js : List Nat) (mw : MW) (one : Bool) (is : List Nat) (tt : MT) (te : ME) : MS := fun env => (mw env).bind fun x => ok (x.1.length ≤ 1000000) ((lcS one is tt te x.1 (wipeE is x.2)).bind fun r => ok (r.1.length = js.length) (.ret (.nx, setE (restoreE x.2 is r.2) js r.1)))
section
variable {X : Cx} {elt tg iter : Expr} {ifs : List Expr} {scope : Scope} {own : List (Str × Nat)} {pos : Pos} {mw : MW} {one p : Bool} {tt : MT} {te : ME}
theorem lcs_run {K : PySem.W.Frag} {js is : List Nat} {σ : L2.St} {H : Hp} {D : Ends} (h : RS K (sLcs js mw one is tt te) D σ H) :
    tLc (RW K mw) (gNames K one is) (RT K false tt) (RD K p te) is σ H fun v H1 => gUnl K js.length (gAll js) v σ H1 D.nx := by
  obtain ⟨R, Z, S, env, s, k⟩ := h
  refine ⟨R, Z, S, env, s, all_mono (fun y k J Z1 H1 e1 s1 w D0 hD => ?_) (all_bind.mp k)⟩
  obtain ⟨hl, k⟩ := ok_all k
  obtain ⟨G, Y, wk, hG, hY⟩ := w.w
  have rD : R D0 = none := s1.g.r.free hD
  let P : List Sl → List Sl × Ev → Prop := fun acc r => (acc ++ r.1).length = js.length ∧ ∀ σ' Z' H', Same Z Z' → SR K R Z' S H' σ' (setE (restoreE y.2 is r.2) js (acc ++ r.1)) → D.nx σ' H'
  have k0 : (lcS one is tt te y.1 (wipeE is y.2)).all (P []) := all_mono (fun r k => by
    obtain ⟨h1, k⟩ := ok_all k
    exact ⟨h1, fun σ' Z' H' e s' => k σ' Z' H' e s'⟩) (all_bind.mp k)
  refine lc_it wk (fun i H' => ∃ Z' env' acc vs, Same Z1 Z' ∧ SR K (upd R D0 (.lst vs)) Z' S H' (L2.wipe σ is) env' ∧ (∀ j ∈ is, ∀ t, env'[j]? ≠ some (some t)) ∧ Rs K Z' S vs acc ∧ acc.length ≤ i ∧ (lcS one is tt te (y.1.drop i) env').all (P acc)) ?_ (fun i H' hi ⟨Z', env', acc, vs, e, s', _⟩ => hG _ Z' H' e s'.g) ?_ ?_
  · exact ⟨Z1, wipeE is y.2, [], [], Same.refl _, (s1.wipe is).reserve hD, fun j hj => wipeE_in is hj, .nil, Nat.le_refl 0, k0⟩
  · rintro i x H' H2 hi ⟨Z', env', acc, vs, e, s', hn, ra, la, q⟩ yy
    obtain ⟨d, Z2, hd, st, r⟩ := hY i _ Z' H' x H2 hi e s'.g yy
    have e0 : y.1.drop i = d :: y.1.drop (i + 1) := by
      obtain ⟨hl, e⟩ := List.getElem?_eq_some_iff.mp hd
      rw [← e]
      exact List.drop_eq_getElem_cons hl
    rw [e0] at q
    obtain ⟨σ2, env2, hg, s2, q, hw⟩ := tgNames_run (s'.step st) r (all_bind.mp q)
    refine hg _ ⟨by rw [hw]; exact wipe_wipe is fun j hj => hj, ?_⟩
    have w0 : L2.wipe σ2 is = L2.wipe σ is := by rw [hw]; exact wipe_wipe is fun j hj => hj
    refine ⟨_, Z2, S, env2, s2, all_mono (fun b q Z3 H3 e3 st3 s3 => ?_) (all_bind.mp q)⟩
    dsimp only
    split
    · rename_i hb
      rw [if_pos hb] at q
      refine ⟨_, Z3, S, b.2, s3, all_mono (fun z q v4 Z4 H4 e4 st4 s4 r4 => ?_) (all_bind.mp q)⟩
      split at q
      · exact q.elim
      · rename_i ho
        have ho : z.1.own = false := by simpa using ho
        have em : Same Z1 Z4 := ((e.trans st.e).trans e3).trans e4
        have ra4 : Rs K Z4 S vs acc := ra.mono ((st.e.trans e3).trans e4)
        refine ⟨vs, s4.g.r D0 _ upd_same, line_lt (by rw [ra4.len]; omega), Z4, wipeE is z.2, acc ++ [z.1], vs ++ [v4], em, ?_, fun j hj => wipeE_in is hj, ra4.snoc ⟨ho, RSl.any ho r4.r⟩, by rw [List.length_append]; show acc.length + 1 ≤ i + 1; omega, ?_⟩
        · have := (s4.wipe is).turn (o' := .lst (vs ++ [v4]))
          rw [w0] at this
          exact this
        · refine all_mono (fun r q => ?_) (all_bind.mp q)
          have q : P acc (z.1 :: r.1, r.2) := q
          obtain ⟨q1, q2⟩ := q
          refine ⟨by rw [List.append_assoc]; exact q1, fun σ' Z' H' e s' => q2 σ' Z' H' e ?_⟩
          rw [List.append_assoc] at s'
          exact s'
    · rename_i hb
      rw [if_neg hb] at q
      refine ⟨Z3, wipeE is b.2, acc, vs, (e.trans st.e).trans e3, ?_, fun j hj => wipeE_in is hj, ra.mono (st.e.trans e3), Nat.le_succ_of_le la, q⟩
      have := s3.wipe is
      rw [w0] at this
      exact this
  · rintro H' ⟨Z', env', acc, vs, e, s', hn, ra, la, q⟩
    rw [List.drop_length] at q
    have q : P acc ([], env') := q
    obtain ⟨q1, q2⟩ := q
    rw [List.append_nil] at q1 q2
    have h0 := s1.restore e is (s'.unwipe hn)
    have hH : H' D0 = some (.lst vs) := h0.g.r D0 _ upd_same
    have hlen : vs.length = js.length := by rw [ra.len]; exact q1
    exact ⟨D0, vs, rfl, .of hH, hlen, hlen, q2 _ Z' H' (e1.trans e) (sr_setE js vs acc (h0.unreserve rD) ra)⟩
theorem vs_lcs {tgs : List Expr} {kt : Nat} {pt spos : Pos} {js : List Nat} (hc : X.calm = true) (hN : X.N.Nodup) (hi : VWk X tg iter mw) (ok : BlkOk X.N X.env.scope scope own)
    (hg : ∀ (s : Shared) (H : Hp) (C : Addr) (cl : List (Str × Addr)) (fp : List Addr), PG (X.blk s H scope (compEnvC scope cl C X.env) fp) tg (gNames X.K one (own.map (·.2))))
    (ht : ∀ (s : Shared) (H : Hp) (C : Addr) (cl : List (Str × Addr)) (fp : List Addr), VTs (X.blk s H scope (compEnvC scope cl C X.env) fp) ifs tt)
    (he : ∀ (s : Shared) (H : Hp) (C : Addr) (cl : List (Str × Addr)) (fp : List Addr), VE (X.blk s H scope (compEnvC scope cl C X.env) fp) p elt te)
    (htg : PGs X tgs (gAll js)) (hn : (assignEach tgs X.env).length = js.length := by rfl) (hst : (assignEach tgs X.env).findIdx? (·.1) = none := by rfl) (hs : ∀ x, foldedSetIterable iter X.env x = pure x := by intro _; rfl)
    (h1 : swapsWithSole [.Tuple tgs kt pt] (.ListComp elt [⟨tg, iter, ifs, 0⟩] scope pos) spos.line X.env = pure false := by rfl) (h2 : swappedStores [.Tuple tgs kt pt] (.ListComp elt [⟨tg, iter, ifs, 0⟩] scope pos) X.env = pure none := by rfl)
    (h3 : (assignEach [.Tuple tgs kt pt] X.env).map (·.2) = [assign (.Tuple tgs kt pt) X.env] := by rfl) :
    VS X (.Assign [.Tuple tgs kt pt] (.ListComp elt [⟨tg, iter, ifs, 0⟩] scope pos) spos) (sLcs js mw one (own.map (·.2)) tt te) :=
  ps_weak (ps_asg (pe_lc hc hN hi ok hg ht he hs) (pg_unl hc htg hn hst) h1 h2 h3) fun D σ H h => lcs_run h
end
section
variable {PS : Fl × Ev → Prop} {PL : List Sl × Ev → Prop} (env env0 : Ev) (js is : List Nat) (one : Bool) (tt : MT) (te : ME) (ds : List PyData) (d : PyData) (ss : List Sl) (s : Sl) (b : Bool) (i : Nat)
def kLsE (env0 : Ev) (is js : List Nat) (P : Fl × Ev → Prop) : List Sl × Ev → Prop := fun r => r.1.length = js.length ∧ P (.nx, setE (restoreE env0 is r.2) js r.1)
theorem kLsE_ap : kLsE env0 is js PS (ss, env) = (ss.length = js.length ∧ PS (.nx, setE (restoreE env0 is env) js ss)) := Eq.trans rfl rfl
def kLs (js : List Nat) (one : Bool) (is : List Nat) (tt : MT) (te : ME) (P : Fl × Ev → Prop) : List PyData × Ev → Prop := fun x => x.1.length ≤ 1000000 ∧ WP (lcS one is tt te x.1 (wipeE is x.2)) (kLsE x.2 is js P)
theorem kLs_ap : kLs js one is tt te PS (ds, env) = (ds.length ≤ 1000000 ∧ WP (lcS one is tt te ds (wipeE is env)) (kLsE env is js PS)) := Eq.trans rfl rfl
theorem wp_lcs (mw : MW) : WP (sLcs js mw one is tt te env) PS = WP (mw env) (kLs js one is tt te PS) := by
  unfold sLcs
  simp only [wp_bind, wp_ret, wp_ok]
  rfl
def kLs4 (s : Sl) (P : List Sl × Ev → Prop) : List Sl × Ev → Prop := fun r => P (s :: r.1, r.2)
theorem kLs4_ap : kLs4 s PL (ss, env) = PL (s :: ss, env) := Eq.trans rfl rfl
def kLs3 (one : Bool) (is : List Nat) (tt : MT) (te : ME) (ds : List PyData) (P : List Sl × Ev → Prop) : Sl × Ev → Prop := fun y => y.1.own = false ∧ WP (lcS one is tt te ds (wipeE is y.2)) (kLs4 y.1 P)
theorem kLs3_ap : kLs3 one is tt te ds PL (s, env) = (s.own = false ∧ WP (lcS one is tt te ds (wipeE is env)) (kLs4 s PL)) := Eq.trans rfl rfl
def kLs2 (one : Bool) (is : List Nat) (tt : MT) (te : ME) (ds : List PyData) (P : List Sl × Ev → Prop) : Bool × Ev → Prop := fun b => if b.1 = true then WP (te b.2) (kLs3 one is tt te ds P) else WP (lcS one is tt te ds (wipeE is b.2)) P
theorem kLs2_ap : kLs2 one is tt te ds PL (b, env) = if b = true then WP (te env) (kLs3 one is tt te ds PL) else WP (lcS one is tt te ds (wipeE is env)) PL := Eq.trans rfl rfl
def kLs1 (one : Bool) (is : List Nat) (tt : MT) (te : ME) (ds : List PyData) (P : List Sl × Ev → Prop) : Ev → Prop := fun env => WP (tt env) (kLs2 one is tt te ds P)
theorem kLs1_ap : kLs1 one is tt te ds PL env = WP (tt env) (kLs2 one is tt te ds PL) := Eq.trans rfl rfl
theorem wp_lcS0 : WP (lcS one is tt te [] env) PL = PL ([], env) := wp_ret ..
theorem wp_lcS1 : WP (lcS one is tt te (d :: ds) env) PL = WP (tgNames one is d env) (kLs1 one is tt te ds PL) := by
  rw [lcS]
  simp only [wp_bind]
  refine congrArg (WP _) (funext fun env1 => ?_)
  refine congrArg (WP (tt env1)) (funext fun b => ?_)
  unfold kLs2
  split
  · rw [wp_bind]
    refine congrArg (WP (te b.2)) (funext fun y => ?_)
    unfold kLs3
    cases y.1.own with
    | true => simp only [if_true, wp_bad, Bool.true_eq_false, false_and]
    | false =>
      simp only [Bool.false_eq_true, if_false, wp_bind, wp_ret, true_and]
      rfl
  · rfl
theorem setE1 : setE env (i :: is) (s :: ss) = setE (env.set i (some s)) is ss := Eq.trans rfl rfl
theorem setE0 : setE env [] [] = env := Eq.trans rfl rfl
theorem own_ft : (Sl.ft ds).own = false := Eq.trans rfl rfl
theorem own_imm : (Sl.imm d).own = false := Eq.trans rfl rfl
end
end PV

set_option Elab.async false
set_option linter.all false
set_option autoImplicit false
set_option maxRecDepth 100000
/-! PVx: t.index(k) for a tuple of ints whose object is told. -/
namespace PV
open PySem PySem.Spec L2 PyProof.Rows
section
variable {X : Cx} {o e : Expr} {es : List Expr} {to : TE} {t : TA} {apos cpos : Pos}
theorem pe_indexT (ho : PE X o to) (ha : PA X [e] t)
    (hbase : attributeBase o "index" X.env (eval o X.env) = eval o X.env := by rfl)
    (hfew : ((backTo cpos (starEach [e] X.env)).all (fun x => !x.1) && (backToKw cpos (keywordEach [] X.env)).all (fun x => x.1.isSome)
      && decide (([e] : List Expr).length + ([] : List Keyword).length + (if ([] : List Keyword).isEmpty then 0 else 1) < 30)) = true := by rfl)
    (hline : (apos.endLine == cpos.line) = true := by rfl) (hs : starEach [e] X.env = (false, eval e X.env) :: starEach [] X.env := by rfl) (hplain : (backTo cpos (starEach [] X.env)).any (·.1) = false := by rfl) :
    PE X (.Call (.Attribute o "index" apos) [e] [] cpos) (fun σ H Q => to σ H fun x H1 => (∃ (a : Addr) (ob : Obj) (vs : List V), x = .ref a ∧ H1 a = some (.frz ob (.tup vs)) ∧ ob.dict = none) ∧
      t σ H1 fun xs H2 => ∃ (a : Addr) (ns : List Int) (k : Int), x = .ref a ∧ xs = [.int k] ∧ SqT X.K H2 a (ns.map V.int) ∧ k ∈ ns ∧ Q (.int (ns.idxOf k : Nat)) H2) := by
  refine ⟨fun pins s σ H Q I h => ?_⟩
  refine wpAny_Call_method_late hbase hfew hline rfl (thn (ho.run pins s σ H _ I h) fun v s1 ⟨x, H1, I1, r1, ⟨a, ob, vs, ex, hz, hd⟩, q1⟩ => ?_)
  subst ex
  cases r1
  obtain ⟨ho1, _, its, rv, o2, ho2, hc2, n, hdat⟩ := (show ObjOk X.prog X.w H1 s1.heap a (.frz ob (.tup vs)) from I1.hok a _ hz)
  rw [ho1] at ho2
  cases ho2
  refine ⟨"tuple", "tuple.index", PySem.F.plainAttrs_tuple, PySem.F.slot_tuple_index, PySem.F.type_tuple_index, ⟨_, ho1, hc2⟩, fun b e => by cases e; exact ⟨_, ho1, hd⟩, ?_⟩
  have hA := ha.run cpos pins s1 σ H1 _ I1 q1
  rw [hs] at hA ⊢
  refine Calls.callWith_builtin (by show (false || (backTo cpos (starEach [] X.env)).any (·.1)) = false; rw [hplain] <;> rfl) (Calls.evalArgs_plain ?_)
  refine thn hA fun us s2 ⟨xs, H2, I2, r2, a', ns, k, e1, e2, hq, hk, q⟩ => ?_
  cases e1
  subst e2
  obtain ⟨u, eu, ru⟩ := vals1 r2
  subst eu
  obtain ⟨tk, rfl⟩ := ru
  obtain ⟨its2, rv2, ht2, _⟩ := I2.tuple hq
  exact SeqAt.tuple_index_ints ht2 (intsAre_of rv2) hk ⟨.int (ns.idxOf k : Nat), H2, I2.tok _, ⟨_, rfl⟩, q⟩
def unI : PyData → Int
  | .int i => i
  | _ => 0
theorem map_unI (ns : List Int) : (ns.map PyData.int).map unI = ns := by
  induction ns with
  | nil => rfl
  | cons n ns ih => rw [List.map_cons, List.map_cons, ih]; rfl
def isI : PyData → Bool
  | .int _ => true
  | _ => false
theorem ints_of : ∀ {ds : List PyData}, ds.all isI = true → ds = (ds.map unI).map PyData.int
  | [], _ => rfl
  | d :: ds, h => by
    rw [List.all_cons, Bool.and_eq_true] at h
    rw [List.map_cons, List.map_cons, ← ints_of h.2]
    cases d with
    | int i => rfl
    | _ => cases h.1
def indexTD (ds : List PyData) (d : PyData) : Tr Sl := match d with
  | .int k => ok (ds.all isI = true ∧ k ∈ ds.map unI) (rN ((ds.map unI).idxOf k : Nat))
  | _ => .bad
def mIndexT (i : Nat) (m : MI) : ME := fun env => match env[i]? with
  | some (some (.ft ds)) => (m env).bind fun y => (indexTD ds y.1).bind fun r => .ret (r, y.2)
  | some (some (.imm (.tuple ds))) => (m env).bind fun y => (indexTD ds y.1).bind fun r => .ret (r, y.2)
  | _ => .bad
theorem ve_indexT {k i : Nat} {p : Bool} {m : MI} (hr : Room k X.A) (ho : PE X o (tVar i)) (he : VI X p e m)
    (hbase : attributeBase o "index" X.env (eval o X.env) = eval o X.env := by rfl)
    (hfew : ((backTo cpos (starEach [e] X.env)).all (fun x => !x.1) && (backToKw cpos (keywordEach [] X.env)).all (fun x => x.1.isSome)
      && decide (([e] : List Expr).length + ([] : List Keyword).length + (if ([] : List Keyword).isEmpty then 0 else 1) < 30)) = true := by rfl)
    (hline : (apos.endLine == cpos.line) = true := by rfl) (hs : starEach [e] X.env = (false, eval e X.env) :: starEach [] X.env := by rfl) (hplain : (backTo cpos (starEach [] X.env)).any (·.1) = false := by rfl) :
    VE X p (.Call (.Attribute o "index" apos) [e] [] cpos) (mIndexT i m) :=
  pe_weak (pe_indexT ho (pa_cons he pa_nil hs) hbase hfew hline hs hplain) fun σ H Q ⟨R, Z, S, env, s, k⟩ => by
    unfold mIndexT at k
    split at k
    · rename_i ds hd
      obtain ⟨v, h1, ⟨a, vs, rfl, ⟨_, ob, hz, hdc⟩, rp⟩, h3⟩ := s.sl i _ hd
      refine ⟨_, h1, ⟨a, ob, vs, rfl, s.g.z _ _ hz, hdc⟩, R, Z, S, env, s, all_mono (fun y k v2 Z2 H2 e2 st2 s2 r2 => ?_) (all_bind.mp k)⟩
      have k := all_bind.mp k
      cases hy : y.1 with
      | int j =>
        rw [hy] at k r2
        obtain ⟨⟨ha, hm⟩, k⟩ := ok_all k
        obtain rfl : v2 = .int j := by cases r2; rfl
        have e4 := ints_of ha
        rw [e4] at rp
        have e5 := RpAll.of_ints _ rp
        refine ⟨a, ds.map unI, j, rfl, rfl, .inl (.inr ⟨ob, ?_⟩), hm, k _ Z2 H2 e2 st2 s2 ⟨.int _, (fun z => nomatch z), (fun z => nomatch z)⟩⟩
        rw [← e5]
        exact s2.g.z _ _ (e2 _ _ hz)
      | _ => rw [hy] at k; exact k.elim
    · rename_i ds hd
      obtain ⟨v, h1, h2, h3⟩ := s.sl i _ hd
      obtain ⟨a, vs, rfl, ⟨_, ob, hz, hdc⟩, rp⟩ := Rp.isT h2
      refine ⟨_, h1, ⟨a, ob, vs, rfl, s.g.z _ _ hz, hdc⟩, R, Z, S, env, s, all_mono (fun y k v2 Z2 H2 e2 st2 s2 r2 => ?_) (all_bind.mp k)⟩
      have k := all_bind.mp k
      cases hy : y.1 with
      | int j =>
        rw [hy] at k r2
        obtain ⟨⟨ha, hm⟩, k⟩ := ok_all k
        obtain rfl : v2 = .int j := by cases r2; rfl
        have e4 := ints_of ha
        rw [e4] at rp
        have e5 := RpAll.of_ints _ rp
        refine ⟨a, ds.map unI, j, rfl, rfl, .inl (.inr ⟨ob, ?_⟩), hm, k _ Z2 H2 e2 st2 s2 ⟨.int _, (fun z => nomatch z), (fun z => nomatch z)⟩⟩
        rw [← e5]
        exact s2.g.z _ _ (e2 _ _ hz)
      | _ => rw [hy] at k; exact k.elim
    · exact k.elim
end

/-! ### {a: x, b: y}.get(c, z) with ints as keys -/
def mDisp2 (a x b y c z : MI) : ME := fun env => (a env).bind fun ra => (x ra.2).bind fun rx => (b rx.2).bind fun rb => (y rb.2).bind fun ry => match ra.1, rb.1 with
  | .int i, .int j => (c ry.2).bind fun rc => (z rc.2).bind fun rz => match rc.1 with
    | .int k => .ret (.imm (if k = j then ry.1 else if k = i then rx.1 else rz.1), rz.2)
    | _ => .bad
  | _, _ => .bad
theorem val2 {i j k : Int} {u w : V} : valV (mergeK [] [((Sum.inl i : Key), u), (Sum.inl j, w)]) (Sum.inl k) = if k = j then some w else if k = i then some u else none := by
  have e0 : mergeK [] [((Sum.inl i : Key), u), (Sum.inl j, w)] = putK [((Sum.inl i : Key), u)] (Sum.inl j) w := rfl
  rw [e0]
  unfold putK
  by_cases h : i = j
  · subst h
    have : ([((Sum.inl i : Key), u)].any fun kv => decide (kv.1 = (Sum.inl i : Key))) = true := by simp
    rw [if_pos this]
    by_cases hk : k = i
    · subst hk
      rw [if_pos rfl]
      unfold valV
      simp
    · rw [if_neg hk, if_neg hk]
      unfold valV
      have : ¬ (i = k) := fun e => hk e.symm
      simp [this]
  · have : ¬ ([((Sum.inl i : Key), u)].any fun kv => decide (kv.1 = (Sum.inl j : Key))) = true := by simp [h]
    rw [if_neg this]
    unfold valV
    by_cases hk : k = j
    · subst hk
      rw [if_pos rfl]
      simp [h]
    · rw [if_neg hk]
      by_cases hi : k = i
      · subst hi
        rw [if_pos rfl]
        simp
      · rw [if_neg hi]
        have h1 : ¬ (i = k) := fun e => hi e.symm
        have h2 : ¬ (j = k) := fun e => hk e.symm
        simp [h1, h2]
section
variable {X : Cx} {a x b y c z : Expr} {pa px pb py pc pz : Bool} {ma mx mb my mc mz : MI} {apos cpos dpos : Pos} {k : Nat}
theorem ve_disp2 (hr : Room k X.A) (ha : VI X true a ma) (hx : VI X true x mx) (hb : VI X true b mb) (hy : VI X true y my) (hc : VI X true c mc) (hz : VI X true z mz)
    (base : attributeBase (.Dict [some a, some b] [x, y] dpos) "get" X.env (eval (.Dict [some a, some b] [x, y] dpos) X.env) = eval (.Dict [some a, some b] [x, y] dpos) X.env := by rfl)
    (few : ((backTo cpos (starEach [c, z] X.env)).all (fun x => !x.1) && (backToKw cpos (keywordEach [] X.env)).all (fun x => x.1.isSome)
      && decide (([c, z] : List Expr).length + ([] : List Keyword).length + (if ([] : List Keyword).isEmpty then 0 else 1) < 30)) = true := by rfl)
    (line : (apos.endLine == cpos.line) = true := by rfl) (trees : backTo cpos (starEach [c, z] X.env) = [(false, eval c X.env), (false, eval z X.env)] := by rfl) :
    VE X true (.Call (.Attribute (.Dict [some a, some b] [x, y] dpos) "get" apos) [c, z] [] cpos) (mDisp2 ma mx mb my mc mz) :=
  pe_weak (pe_dget2 (Room.u1 hr) (pe_disp (pps_cons ha hx (pps_cons hb hy pps_nil)) rfl rfl (by simp) (by simp)) hc hz ⟨base, few, line, trees⟩) fun σ H Q ⟨R, Z, S, env, s, k⟩ => by
    intro p hp
    have q0 := s.reserve (o := .dK []) hp
    have hRp : R p = none := (s.g.out hp).1
    refine ⟨upd R p (.dK []), Z, S, env, q0, all_mono (fun ra k v1 Z1 H1 e1 st1 s1 r1 => ?_) (all_bind.mp k)⟩
    refine ⟨upd R p (.dK []), Z1, S, ra.2, s1, all_mono (fun rx k v2 Z2 H2 e2 st2 s2 r2 => ?_) (all_bind.mp k)⟩
    refine ⟨upd R p (.dK []), Z2, S, rx.2, s2, all_mono (fun rb k v3 Z3 H3 e3 st3 s3 r3 => ?_) (all_bind.mp k)⟩
    refine ⟨upd R p (.dK []), Z3, S, rb.2, s3, all_mono (fun ry k v4 Z4 H4 e4 st4 s4 r4 => ?_) (all_bind.mp k)⟩
    refine ⟨s4.g.r p _ upd_same, ?_⟩
    split at k
    · rename_i i j hi hj
      rw [hi] at r1
      rw [hj] at r3
      obtain rfl : v1 = .int i := by cases r1; rfl
      obtain rfl : v3 = .int j := by cases r3; rfl
      refine ⟨[(Sum.inl i, v2), (Sum.inl j, v4)], rfl, by simp, ?_⟩
      have q5 := s4.turn (o' := .dK (mergeK [] [((Sum.inl i : Key), v2), (Sum.inl j, v4)]))
      refine ⟨p, rfl, .inl ⟨_, .inl upd_same⟩, upd R p _, Z4, S, ry.2, q5, all_mono (fun rc k v5 Z5 H5 e5 st5 s5 r5 => ?_) (all_bind.mp k)⟩
      refine ⟨upd R p _, Z5, S, rc.2, s5, all_mono (fun rz k v6 Z6 H6 e6 st6 s6 r6 => ?_) (all_bind.mp k)⟩
      split at k
      · rename_i c hc
        rw [hc] at r5
        obtain rfl : v5 = .int c := by cases r5; rfl
        have hd := s6.g.r p _ upd_same
        refine ⟨_, DGet.k (k := .inl c) hd, ?_⟩
        rw [val2]
        have st : true = true → Stay S H H6 := fun _ => by
          intro w o ho ns
          have hw : w ≠ p := fun e => by subst e; rw [hp] at ho; cases ho
          have a1 := st4 rfl w o (st3 rfl w o (st2 rfl w o (st1 rfl w o (by rw [upd_ne hw]; exact ho) ns) ns) ns) ns
          exact st6 rfl w o (st5 rfl w o (by rw [upd_ne hw]; exact a1) ns) ns
        have s7 := s6.unreserve hRp
        have ee := e1.trans (e2.trans (e3.trans (e4.trans (e5.trans e6))))
        have fin : ∀ v, Rp X.K Z6 v (if c = j then ry.1 else if c = i then rx.1 else rz.1) → Q v H6 := fun v hv => k v Z6 H6 ee st s7 ⟨hv, (fun z => nomatch z), (fun z => nomatch z)⟩
        by_cases h1 : c = j
        · rw [if_pos h1] at fin ⊢
          exact fin _ (r4.mono (e5.trans e6))
        · rw [if_neg h1] at fin ⊢
          by_cases h2 : c = i
          · rw [if_pos h2] at fin ⊢
            exact fin _ (r2.mono (e3.trans (e4.trans (e5.trans e6))))
          · rw [if_neg h2] at fin ⊢
            exact fin _ r6
      · exact k.elim
    · exact k.elim
end
end PV

set_option Elab.async false
set_option linter.all false
set_option autoImplicit false
set_option maxRecDepth 100000
/-! PVy: walking rules for PVx. -/
namespace PV
open PySem PySem.Spec L2
section
variable {P : Sl × Ev → Prop} (env : Ev) (i : Nat) (d e f : PyData)
def itP (m : MI) (env : Ev) (P : Sl × Ev → Prop) (o : Option (Option Sl)) : Prop := match o with
  | some (some (.ft ds)) => WP (m env) fun y => WP (indexTD ds y.1) fun r => P (r, y.2)
  | some (some (.imm (.tuple ds))) => WP (m env) fun y => WP (indexTD ds y.1) fun r => P (r, y.2)
  | _ => False
def kIt (ds : List PyData) (P : Sl × Ev → Prop) : PyData × Ev → Prop := fun y => WP (indexTD ds y.1) fun r => P (r, y.2)
def kIr (env : Ev) (P : Sl × Ev → Prop) : Sl → Prop := fun r => P (r, env)
theorem kIr_ap (s : Sl) : kIr env P s = P (s, env) := Eq.trans rfl rfl
theorem kIt_ap (ds : List PyData) : kIt ds P (d, env) = WP (indexTD ds d) (kIr env P) := Eq.trans rfl rfl
theorem itP_ft (m : MI) (ds : List PyData) : itP m env P (some (some (.ft ds))) = WP (m env) (kIt ds P) := Eq.trans rfl rfl
theorem itP_it (m : MI) (ds : List PyData) : itP m env P (some (some (.imm (.tuple ds)))) = WP (m env) (kIt ds P) := Eq.trans rfl rfl
theorem wp_indexT (m : MI) : WP (mIndexT i m env) P = itP m env P env[i]? := by
  unfold mIndexT itP
  generalize env[i]? = o
  rcases o with _ | _ | s
  · exact wp_bad _
  · exact wp_bad _
  · cases s <;> first | exact wp_bad _ | skip
    · rename_i d
      cases d <;> first | exact wp_bad _ | skip
      show WP ((m env).bind fun y => (indexTD _ y.1).bind fun r => Tr.ret (r, y.2)) P = WP (m env) fun y => WP (indexTD _ y.1) fun r => P (r, y.2)
      simp only [wp_bind]
      refine congrArg (WP (m env)) (funext fun y => ?_)
      refine congrArg (WP _) (funext fun r => ?_)
      exact wp_ret ..
    · show WP ((m env).bind fun y => (indexTD _ y.1).bind fun r => Tr.ret (r, y.2)) P = WP (m env) fun y => WP (indexTD _ y.1) fun r => P (r, y.2)
      simp only [wp_bind]
      refine congrArg (WP (m env)) (funext fun y => ?_)
      refine congrArg (WP _) (funext fun r => ?_)
      exact wp_ret ..
theorem d_ixFt {Ps : Sl → Prop} {xs : List Int} {x : Int} (h : x ∈ xs) : WP (indexTD (xs.map PyData.int) (.int x)) Ps = Ps (.imm (.int (xs.idxOf x : Nat))) := by
  show WP (ok _ _) _ = _
  rw [wp_ok]
  show (_ ∧ WP (Tr.ret _) Ps) = _
  rw [wp_ret, map_unI]
  refine propext ⟨fun z => z.2, fun z => ⟨⟨?_, h⟩, z⟩⟩
  rw [List.all_map, List.all_eq_true]
  intro _ _
  rfl
def kD6 (i j : Int) (x y c : PyData) (P : Sl × Ev → Prop) : PyData × Ev → Prop := fun rz => match c with
  | .int k => P (.imm (if k = j then y else if k = i then x else rz.1), rz.2)
  | _ => False
theorem kD6_ap (i j k : Int) (x y : PyData) : kD6 i j x y (.int k) P (d, env) = P (.imm (if k = j then y else if k = i then x else d), env) := Eq.trans rfl rfl
def kD5 (i j : Int) (x y : PyData) (z : MI) (P : Sl × Ev → Prop) : PyData × Ev → Prop := fun rc => WP (z rc.2) (kD6 i j x y rc.1 P)
theorem kD5_ap (i j : Int) (x y : PyData) (z : MI) : kD5 i j x y z P (d, env) = WP (z env) (kD6 i j x y d P) := Eq.trans rfl rfl
def kD4 (a x b : PyData) (c z : MI) (P : Sl × Ev → Prop) : PyData × Ev → Prop := fun ry => match a, b with
  | .int i, .int j => WP (c ry.2) (kD5 i j x ry.1 z P)
  | _, _ => False
theorem kD4_ap (i j : Int) (x : PyData) (c z : MI) : kD4 (.int i) x (.int j) c z P (d, env) = WP (c env) (kD5 i j x d z P) := Eq.trans rfl rfl
def kD3 (a x : PyData) (y c z : MI) (P : Sl × Ev → Prop) : PyData × Ev → Prop := fun rb => WP (y rb.2) (kD4 a x rb.1 c z P)
theorem kD3_ap (a x : PyData) (y c z : MI) : kD3 a x y c z P (d, env) = WP (y env) (kD4 a x d c z P) := Eq.trans rfl rfl
def kD2 (a : PyData) (b y c z : MI) (P : Sl × Ev → Prop) : PyData × Ev → Prop := fun rx => WP (b rx.2) (kD3 a rx.1 y c z P)
theorem kD2_ap (a : PyData) (b y c z : MI) : kD2 a b y c z P (d, env) = WP (b env) (kD3 a d y c z P) := Eq.trans rfl rfl
def kD1 (x b y c z : MI) (P : Sl × Ev → Prop) : PyData × Ev → Prop := fun ra => WP (x ra.2) (kD2 ra.1 b y c z P)
theorem kD1_ap (x b y c z : MI) : kD1 x b y c z P (d, env) = WP (x env) (kD2 d b y c z P) := Eq.trans rfl rfl
theorem wp_disp2 (a x b y c z : MI) : WP (mDisp2 a x b y c z env) P = WP (a env) (kD1 x b y c z P) := by
  unfold mDisp2
  simp only [wp_bind]
  refine congrArg (WP _) (funext fun ra => ?_)
  refine congrArg (WP _) (funext fun rx => ?_)
  refine congrArg (WP _) (funext fun rb => ?_)
  refine congrArg (WP _) (funext fun ry => ?_)
  show WP (match ra.1, rb.1 with
    | .int i, .int j => _
    | _, _ => _) P = kD4 ra.1 rx.1 rb.1 c z P ry
  generalize ra.1 = ka
  generalize rb.1 = kb
  unfold kD4
  cases ka <;> cases kb <;> first | exact wp_bad _ | skip
  simp only [wp_bind]
  refine congrArg (WP _) (funext fun rc => ?_)
  refine congrArg (WP _) (funext fun rz => ?_)
  show WP (match rc.1 with
    | .int k => _
    | _ => _) P = kD6 _ _ _ _ rc.1 P rz
  generalize rc.1 = kc
  unfold kD6
  cases kc <;> first | exact wp_bad _ | exact wp_ret ..
end
end PV

set_option Elab.async false
set_option linter.all false
set_option autoImplicit false
set_option maxRecDepth 100000
/-! PVc: a < b < c. -/
namespace PV
open PySem PySem.Spec L2
def mChain (f g : PyData → PyData → Tr Sl) (ma mb mc : MI) : ME := fun env => (ma env).bind fun x => (mb x.2).bind fun y => (f x.1 y.1).bind fun r => match r with
  | .imm (.bool true) => (mc y.2).bind fun z => (g y.1 z.1).bind fun s => .ret (s, z.2)
  | .imm (.bool false) => .ret (.imm (.bool false), y.2)
  | _ => .bad
section
variable {X : Cx} {a b c : Expr} {p q r : Bool} {ma mb mc : MI} {f g : PyData → PyData → Tr Sl} {pos : Pos}
def rV (X : Cx) (f : PyData → PyData → Tr Sl) : R2 := fun x y H Q => ∃ R Z S d e, Good R Z S H ∧ Bw X.K Z S H x d ∧ Bw X.K Z S H y e ∧ PR X.K R Z S H (f d e) Q
theorem rd_chain {σ : L2.St} {H : Hp} {Q : VK} (h : RD X.K (p && q && r) (mChain f g ma mb mc) σ H Q) : tChain (rV X f) (rV X g) (RI X.K p ma) (RI X.K q mb) (RI X.K r mc) σ H Q := by
    obtain ⟨R, Z, S, env, s, k⟩ := h
    refine ⟨R, Z, S, env, s, all_mono (fun x k v1 Z1 H1 e1 st1 s1 r1 => ?_) (all_bind.mp k)⟩
    refine ⟨R, Z1, S, x.2, s1, all_mono (fun y k v2 Z2 H2 e2 st2 s2 r2 => ?_) (all_bind.mp k)⟩
    refine ⟨R, Z2, S, x.1, y.1, s2.g, .inl (r1.mono e2), .inl r2, ?_⟩
    refine all_mono (fun t k v3 Z3 H3 t3 r3 o3 => ?_) (all_bind.mp k)
    have s3 := s2.step t3
    split at k
    · obtain rfl : v3 = .bl true := by cases r3; rfl
      refine ⟨true, rfl, ?_⟩
      rw [if_pos rfl]
      refine ⟨R, Z3, S, y.2, s3, all_mono (fun z k v4 Z4 H4 e4 st4 s4 r4 => ?_) (all_bind.mp k)⟩
      refine ⟨R, Z4, S, y.1, z.1, s4.g, .inl ((r2.mono t3.e).mono e4), .inl r4, ?_⟩
      refine PR.rd (p := p && q && r) (Z0 := Z) (H0 := H) s4 (e1.trans (e2.trans (t3.e.trans e4))) (fun hp => ?_) k
      simp only [Bool.and_eq_true] at hp
      exact (st1 hp.1.1).trans ((st2 hp.1.2).trans (t3.st.trans (st4 hp.2)))
    · obtain rfl : v3 = .bl false := by cases r3; rfl
      refine ⟨false, rfl, ?_⟩
      rw [if_neg (by decide)]
      refine k (.bl false) Z3 H3 (e1.trans (e2.trans t3.e)) (fun hp => ?_) s3 ⟨.bl false, (fun z => nomatch z), (fun z => nomatch z)⟩
      simp only [Bool.and_eq_true] at hp
      exact (st1 hp.1.1).trans ((st2 hp.1.2).trans t3.st)
    · exact k.elim
theorem ve_chain {op op' : CmpOp} (ho : OpV X (compareOp op) f) (ho' : OpV X (compareOp op') g) (ha : VI X p a ma) (hb : VI X q b mb) (hc : VI X r c mc)
    (hm : lastMarks [op, op'] [b, c] = false := by with_unfolding_all rfl) : VE X (p && q && r) (.Compare a [op, op'] [b, c] pos) (mChain f g ma mb mc) :=
  pe_weak (pe_chain ho ho' ha hb hc hm) fun σ H Q h => rd_chain h
theorem vt_chain {op op' : CmpOp} (ho : OpV X (compareOp op) f) (ho' : OpV X (compareOp op') g) (ha : VI X p a ma) (hb : VI X q b mb) (hc : VI X r c mc)
    (hm : lastMarks [op, op'] [b, c] = false := by with_unfolding_all rfl) : VT X (p && q && r) (.Compare a [op, op'] [b, c] pos) (mT (mI (mChain f g ma mb mc))) :=
  pt_weak (pt_chain ho ho' ha hb hc hm) fun σ H Q h => rt_of_rd (fun Q' h => rd_chain h) h
end
section
variable {P : Sl × Ev → Prop} (env : Ev) (d e : PyData) (f g : PyData → PyData → Tr Sl)
def kCn4 (env : Ev) (P : Sl × Ev → Prop) : Sl → Prop := fun s => P (s, env)
theorem kCn4_ap (s : Sl) : kCn4 env P s = P (s, env) := Eq.trans rfl rfl
def kCn3 (g : PyData → PyData → Tr Sl) (y : PyData) (P : Sl × Ev → Prop) : PyData × Ev → Prop := fun z => WP (g y z.1) (kCn4 z.2 P)
theorem kCn3_ap : kCn3 g e P (d, env) = WP (g e d) (kCn4 env P) := Eq.trans rfl rfl
def kCnS (g : PyData → PyData → Tr Sl) (y : PyData) (mc : MI) (env : Ev) (P : Sl × Ev → Prop) : Sl → Prop := fun r => match r with
  | .imm (.bool b) => if b = true then WP (mc env) (kCn3 g y P) else P (.imm (.bool false), env)
  | _ => False
theorem kCnS_ap (mc : MI) (b : Bool) : kCnS g e mc env P (.imm (.bool b)) = if b = true then WP (mc env) (kCn3 g e P) else P (.imm (.bool false), env) := Eq.trans rfl rfl
def kCn2 (f g : PyData → PyData → Tr Sl) (x : PyData) (mc : MI) (P : Sl × Ev → Prop) : PyData × Ev → Prop := fun y => WP (f x y.1) (kCnS g y.1 mc y.2 P)
theorem kCn2_ap (mc : MI) : kCn2 f g e mc P (d, env) = WP (f e d) (kCnS g d mc env P) := Eq.trans rfl rfl
def kCn1 (f g : PyData → PyData → Tr Sl) (mb mc : MI) (P : Sl × Ev → Prop) : PyData × Ev → Prop := fun x => WP (mb x.2) (kCn2 f g x.1 mc P)
theorem kCn1_ap (mb mc : MI) : kCn1 f g mb mc P (d, env) = WP (mb env) (kCn2 f g d mc P) := Eq.trans rfl rfl
theorem wp_chain (ma mb mc : MI) : WP (mChain f g ma mb mc env) P = WP (ma env) (kCn1 f g mb mc P) := by
  unfold mChain
  simp only [wp_bind]
  refine congrArg (WP _) (funext fun x => ?_)
  refine congrArg (WP _) (funext fun y => ?_)
  refine congrArg (WP _) (funext fun r => ?_)
  cases r <;> try exact wp_bad _
  rename_i z
  cases z <;> try exact wp_bad _
  rename_i b
  cases b
  · show WP (Tr.ret _) P = _
    rw [wp_ret, kCnS_ap, if_neg (by decide)]
  · show WP ((mc y.2).bind fun z => (g y.1 z.1).bind fun s => Tr.ret (s, z.2)) P = _
    rw [kCnS_ap, if_pos rfl]
    simp only [wp_bind]
    refine congrArg (WP _) (funext fun z => ?_)
    refine congrArg (WP _) (funext fun s => ?_)
    exact wp_ret ..
end
/-! ### sum, max, min of a list of ints -/
def topZ : List Int → Int
  | [] => 0
  | x :: xs => xs.foldl (fun a b => if b > a then b else a) x
def lowZ : List Int → Int
  | [] => 0
  | x :: xs => xs.foldl (fun a b => if b < a then b else a) x
def sumD1 : PyData → Tr Sl
  | .list ds => ok (ds.all isI = true) (rN (ds.map unI).sum)
  | _ => .bad
def maxD1 : PyData → Tr Sl
  | .list ds => ok (ds.all isI = true ∧ ds ≠ []) (rN (topZ (ds.map unI)))
  | _ => .bad
def minD1 : PyData → Tr Sl
  | .list ds => ok (ds.all isI = true ∧ ds ≠ []) (rN (lowZ (ds.map unI)))
  | _ => .bad
theorem foldl_top : ∀ (xs : List Int) (x : Int), (xs.foldl (fun a b => if b > a then b else a) x = x ∨ xs.foldl (fun a b => if b > a then b else a) x ∈ xs) ∧ x ≤ xs.foldl (fun a b => if b > a then b else a) x ∧ ∀ y ∈ xs, y ≤ xs.foldl (fun a b => if b > a then b else a) x
  | [], x => ⟨.inl rfl, Int.le_refl _, fun y hy => by simp at hy⟩
  | z :: xs, x => by
    obtain ⟨h1, h2, h3⟩ := foldl_top xs (if z > x then z else x)
    rw [List.foldl_cons]
    refine ⟨?_, ?_, fun y hy => ?_⟩
    · rcases h1 with h1 | h1
      · rw [h1]
        split
        · exact .inr (by simp)
        · exact .inl rfl
      · exact .inr (List.mem_cons_of_mem _ h1)
    · refine Int.le_trans ?_ h2
      split <;> omega
    · rcases List.mem_cons.mp hy with rfl | hy
      · refine Int.le_trans ?_ h2
        split <;> omega
      · exact h3 y hy
theorem foldl_low : ∀ (xs : List Int) (x : Int), (xs.foldl (fun a b => if b < a then b else a) x = x ∨ xs.foldl (fun a b => if b < a then b else a) x ∈ xs) ∧ xs.foldl (fun a b => if b < a then b else a) x ≤ x ∧ ∀ y ∈ xs, xs.foldl (fun a b => if b < a then b else a) x ≤ y
  | [], x => ⟨.inl rfl, Int.le_refl _, fun y hy => by simp at hy⟩
  | z :: xs, x => by
    obtain ⟨h1, h2, h3⟩ := foldl_low xs (if z < x then z else x)
    rw [List.foldl_cons]
    refine ⟨?_, ?_, fun y hy => ?_⟩
    · rcases h1 with h1 | h1
      · rw [h1]
        split
        · exact .inr (by simp)
        · exact .inl rfl
      · exact .inr (List.mem_cons_of_mem _ h1)
    · refine Int.le_trans h2 ?_
      split <;> omega
    · rcases List.mem_cons.mp hy with rfl | hy
      · refine Int.le_trans h2 ?_
        split <;> omega
      · exact h3 y hy
theorem topZ_is {ns : List Int} (h : ns ≠ []) : topZ ns ∈ ns ∧ ∀ y ∈ ns, y ≤ topZ ns := by
  cases ns with
  | nil => exact absurd rfl h
  | cons x xs =>
    obtain ⟨h1, h2, h3⟩ := foldl_top xs x
    refine ⟨?_, fun y hy => ?_⟩
    · rcases h1 with h1 | h1
      · exact List.mem_cons.mpr (.inl h1)
      · exact List.mem_cons_of_mem _ h1
    · rcases List.mem_cons.mp hy with rfl | hy
      · exact h2
      · exact h3 y hy
theorem lowZ_is {ns : List Int} (h : ns ≠ []) : lowZ ns ∈ ns ∧ ∀ y ∈ ns, lowZ ns ≤ y := by
  cases ns with
  | nil => exact absurd rfl h
  | cons x xs =>
    obtain ⟨h1, h2, h3⟩ := foldl_low xs x
    refine ⟨?_, fun y hy => ?_⟩
    · rcases h1 with h1 | h1
      · exact List.mem_cons.mpr (.inl h1)
      · exact List.mem_cons_of_mem _ h1
    · rcases List.mem_cons.mp hy with rfl | hy
      · exact h2
      · exact h3 y hy
section
variable {X : Cx} {K : PySem.W.Frag} {R Z : Hp} {S : Src} {H : Hp}
theorem Bw.ints {v : V} {ds : List PyData} (g : Good R Z S H) (b : Bw K Z S H v (.list ds)) (h : ds.all isI = true) : ∃ a, v = .ref a ∧ SqL K H a ((ds.map unI).map V.int) := by
  obtain ⟨a, vs, rfl, ha, ra⟩ := b.list g
  have e := ints_of h
  rw [e] at ra
  rw [RpAll.of_ints _ ra] at ha
  exact ⟨a, rfl, .of ha⟩
theorem sum_V1 {k : Nat} (hr : Room k X.A) (hG : X.A.guards = some []) (hc : X.calm = true) : CallV1 X (.builtin "sum") sumD1 := by
  rintro pins s σ H xs us Q I r ⟨R, Z, S, v, d, rfl, g, b, h⟩
  cases d with
  | list ds =>
    obtain ⟨hi, h⟩ := ok_all h
    obtain ⟨a, rfl, hs⟩ := b.ints g hi
    exact cr_sum hc pins s σ H _ us Q I r ⟨a, _, rfl, hs, PR.imm h g (.int _)⟩
  | _ => exact h.elim
theorem max_V1 {k : Nat} (hr : Room k X.A) (hG : X.A.guards = some []) (hc : X.calm = true) : CallV1 X (.builtin "max") maxD1 := by
  rintro pins s σ H xs us Q I r ⟨R, Z, S, v, d, rfl, g, b, h⟩
  cases d with
  | list ds =>
    obtain ⟨⟨hi, hne⟩, h⟩ := ok_all h
    obtain ⟨a, rfl, hs⟩ := b.ints g hi
    have hn : ds.map unI ≠ [] := fun e => hne (List.map_eq_nil_iff.mp e)
    obtain ⟨t1, t2⟩ := topZ_is hn
    exact cr_max hc pins s σ H _ us Q I r ⟨a, _, rfl, hs, List.length_pos_iff.mpr hn, fun m m1 m2 => by
      have : m = topZ (ds.map unI) := by have := t2 m m1; have := m2 _ t1; omega
      rw [this]
      exact PR.imm h g (.int _)⟩
  | _ => exact h.elim
theorem min_V1 {k : Nat} (hr : Room k X.A) (hG : X.A.guards = some []) (hc : X.calm = true) : CallV1 X (.builtin "min") minD1 := by
  rintro pins s σ H xs us Q I r ⟨R, Z, S, v, d, rfl, g, b, h⟩
  cases d with
  | list ds =>
    obtain ⟨⟨hi, hne⟩, h⟩ := ok_all h
    obtain ⟨a, rfl, hs⟩ := b.ints g hi
    have hn : ds.map unI ≠ [] := fun e => hne (List.map_eq_nil_iff.mp e)
    obtain ⟨t1, t2⟩ := lowZ_is hn
    exact cr_min hc pins s σ H _ us Q I r ⟨a, _, rfl, hs, List.length_pos_iff.mpr hn, fun m m1 m2 => by
      have : m = lowZ (ds.map unI) := by have := t2 m m1; have := m2 _ t1; omega
      rw [this]
      exact PR.imm h g (.int _)⟩
  | _ => exact h.elim
end
theorem all_isI (ns : List Int) : (ns.map PyData.int).all isI = true := by
  rw [List.all_map, List.all_eq_true]
  intro _ _
  rfl
theorem d_sum {Ps : Sl → Prop} (xs : List Int) : WP (sumD1 (.list (xs.map PyData.int))) Ps = Ps (.imm (.int xs.sum)) := by
  show WP (ok _ _) _ = _
  rw [wp_ok]
  show (_ ∧ WP (Tr.ret _) Ps) = _
  rw [wp_ret, map_unI]
  exact propext ⟨fun z => z.2, fun z => ⟨all_isI xs, z⟩⟩
theorem d_max1 {Ps : Sl → Prop} (xs : List Int) : WP (maxD1 (.list (xs.map PyData.int))) Ps = (xs ≠ [] ∧ Ps (.imm (.int (topZ xs)))) := by
  show WP (ok _ _) _ = _
  rw [wp_ok]
  show (_ ∧ WP (Tr.ret _) Ps) = _
  rw [wp_ret, map_unI]
  refine propext ⟨fun z => ⟨fun e => z.1.2 (by rw [e]; rfl), z.2⟩, fun z => ⟨⟨all_isI xs, fun e => z.1 (List.map_eq_nil_iff.mp e)⟩, z.2⟩⟩
theorem d_min1 {Ps : Sl → Prop} (xs : List Int) : WP (minD1 (.list (xs.map PyData.int))) Ps = (xs ≠ [] ∧ Ps (.imm (.int (lowZ xs)))) := by
  show WP (ok _ _) _ = _
  rw [wp_ok]
  show (_ ∧ WP (Tr.ret _) Ps) = _
  rw [wp_ret, map_unI]
  refine propext ⟨fun z => ⟨fun e => z.1.2 (by rw [e]; rfl), z.2⟩, fun z => ⟨⟨all_isI xs, fun e => z.1 (List.map_eq_nil_iff.mp e)⟩, z.2⟩⟩
/-- a comprehension in a comprehension: its block's names -/
theorem blk_in {N : List Str} {sc0 scope0 sc scope : Scope} {own : List (Str × Nat)} (e : sc = relS scope0 sc0) (h : blkC N (relS scope0 sc0) scope own = true) : BlkOk N sc scope own := by
  rw [e]
  exact blkOk_by h
end PV

set_option Elab.async false
set_option linter.all false
set_option autoImplicit false
set_option maxRecDepth 100000
namespace T
open PySem PySem.Spec L2 PV
def topS (i : Nat) : Stmt := PySem.Challenge.pw_swapladders_k76_whole_greatest_products.main.body.getD i (.Pass ⟨0, 0, 0, 0⟩)
abbrev s_exchanged : Stmt := topS 1
theorem sc_exchanged : FnScope ["row", "i", "j", "found"] ["row", "i", "j"] (defScope s_exchanged) := ⟨rfl, rfl, rfl, by decide +kernel, rfl, by decide +kernel, by decide +kernel⟩
abbrev s_swapped : Stmt := topS 2
theorem sc_swapped : FnScope ["row", "k"] ["row", "k"] (defScope s_swapped) := ⟨rfl, rfl, rfl, by decide +kernel, rfl, by decide +kernel, by decide +kernel⟩
abbrev s_taken_once : Stmt := topS 4
theorem sc_taken_once : FnScope ["row", "word", "k"] ["row", "word"] (defScope s_taken_once) := ⟨rfl, rfl, rfl, by decide +kernel, rfl, by decide +kernel, by decide +kernel⟩
abbrev s_taken_less : Stmt := topS 5
theorem sc_taken_less : FnScope ["row", "word", "k"] ["row", "word"] (defScope s_taken_less) := ⟨rfl, rfl, rfl, by decide +kernel, rfl, by decide +kernel, by decide +kernel⟩
abbrev s_first_word : Stmt := topS 6
theorem sc_first_word : FnScope ["row", "here", "found", "k", "i", "j"] ["row"] (defScope s_first_word) := ⟨rfl, rfl, rfl, by decide +kernel, rfl, by decide +kernel, by decide +kernel⟩
abbrev s_once : Stmt := topS 7
theorem sc_once : FnScope ["one", "other"] ["one", "other"] (defScope s_once) := ⟨rfl, rfl, rfl, by decide +kernel, rfl, by decide +kernel, by decide +kernel⟩
abbrev s_less : Stmt := topS 8
theorem sc_less : FnScope ["one", "other"] ["one", "other"] (defScope s_less) := ⟨rfl, rfl, rfl, by decide +kernel, rfl, by decide +kernel, by decide +kernel⟩
abbrev s__law_source : Stmt := topS 10
theorem sc__law_source : FnScope ["script", "mixed", "cell"] ["script"] (defScope s__law_source) := ⟨rfl, rfl, rfl, by decide +kernel, rfl, by decide +kernel, by decide +kernel⟩
abbrev s__law_pick : Stmt := topS 11
theorem sc__law_pick : FnScope ["source", "many", "left", "mixed"] ["source", "many"] (defScope s__law_pick) := ⟨rfl, rfl, rfl, by decide +kernel, rfl, by decide +kernel, by decide +kernel⟩
abbrev s__law_of : Stmt := topS 12
theorem sc__law_of : FnScope ["source", "some"] ["source", "some"] (defScope s__law_of) := ⟨rfl, rfl, rfl, by decide +kernel, rfl, by decide +kernel, by decide +kernel⟩
abbrev s__law_mixed : Stmt := topS 13
theorem sc__law_mixed : FnScope ["source", "things", "rest", "lap"] ["source", "things"] (defScope s__law_mixed) := ⟨rfl, rfl, rfl, by decide +kernel, rfl, by decide +kernel, by decide +kernel⟩
abbrev s__law_row : Stmt := topS 14
theorem sc__law_row : FnScope ["source", "n"] ["source", "n"] (defScope s__law_row) := ⟨rfl, rfl, rfl, by decide +kernel, rfl, by decide +kernel, by decide +kernel⟩
abbrev s__law_all_rows : Stmt := topS 15
theorem sc__law_all_rows : FnScope ["n", "found", "k", "late", "row", "thing"] ["n"] (defScope s__law_all_rows) := ⟨rfl, rfl, rfl, by decide +kernel, rfl, by decide +kernel, by decide +kernel⟩
abbrev s__law_length : Stmt := topS 16
theorem sc__law_length : FnScope ["row", "thing", "k"] ["row"] (defScope s__law_length) := ⟨rfl, rfl, rfl, by decide +kernel, rfl, by decide +kernel, by decide +kernel⟩
abbrev s__law_is_below : Stmt := topS 17
theorem sc__law_is_below : FnScope ["u", "w", "i", "one", "other"] ["u", "w"] (defScope s__law_is_below) := ⟨rfl, rfl, rfl, by decide +kernel, rfl, by decide +kernel, by decide +kernel⟩
abbrev s__law_exchanged : Stmt := topS 18
theorem sc__law_exchanged : FnScope ["row", "i", "j", "found"] ["row", "i", "j"] (defScope s__law_exchanged) := ⟨rfl, rfl, rfl, by decide +kernel, rfl, by decide +kernel, by decide +kernel⟩
abbrev s__law_steps : Stmt := topS 19
theorem sc__law_steps : FnScope ["u", "found", "i", "j", "thing"] ["u"] (defScope s__law_steps) := ⟨rfl, rfl, rfl, by decide +kernel, rfl, by decide +kernel, by decide +kernel⟩
abbrev s__law_raised : Stmt := topS 20
theorem sc__law_raised : FnScope ["source", "u", "most", "lap", "some"] ["source", "u", "most"] (defScope s__law_raised) := ⟨rfl, rfl, rfl, by decide +kernel, rfl, by decide +kernel, by decide +kernel⟩
abbrev s__law_behind : Stmt := topS 21
theorem sc__law_behind : FnScope ["one", "other", "k"] ["one", "other"] (defScope s__law_behind) := ⟨rfl, rfl, rfl, by decide +kernel, rfl, by decide +kernel, by decide +kernel⟩
abbrev s__law_rows_below : Stmt := topS 22
theorem sc__law_rows_below : FnScope ["w", "row"] ["w"] (defScope s__law_rows_below) := ⟨rfl, rfl, rfl, by decide +kernel, rfl, by decide +kernel, by decide +kernel⟩
abbrev s__law_other_way : Stmt := topS 23
theorem sc__law_other_way : FnScope ["row", "k"] ["row"] (defScope s__law_other_way) := ⟨rfl, rfl, rfl, by decide +kernel, rfl, by decide +kernel, by decide +kernel⟩
abbrev s_law : Stmt := topS 24
theorem sc_law : FnScope ["script", "source", "lap", "n", "u", "w", "x", "tops", "one", "told", "row", "other", "lows", "low", "is_plain", "lap_two", "v"] ["script"] (defScope s_law) := ⟨rfl, rfl, rfl, by decide +kernel, rfl, by decide +kernel, by decide +kernel⟩
def m_exchanged : MS := (sSeq (sSet 3 (m1 listD (mPeek 0)))
    (sSeq (sAsg (mTup (aCons (mI (m2 ixD (mPeek 3) (mPeek 2))) (aCons (mI (m2 ixD (mPeek 3) (mPeek 1))) aNil))) (tgTupG [(tgIx 3 (mVar 1)), (tgIx 3 (mVar 2))]))
    (sRet (m1 tupleD (mPeek 3)))))
@[irreducible] def w_exchanged : FS := run 4 m_exchanged
theorem w_exchanged_def : w_exchanged = run 4 m_exchanged := by unfold w_exchanged; rfl
def m_first_word : MS := (sSeq (sPar 1 2 (m1 listD (mPeek 0)) (mLst aNil))
    (sSeq (sWhile 100000 (mT (mI (m2 neD (mPeek 1) (mI (m1 sortedD1 (mPeek 1)))))) (sSeq (sSet 3 (m2 ixD (mI (mLc (wRange1 (mI (m2 subD (mI (m1 lenD (mPeek 1))) (mC (.int 1))))) true [3] (mT (mI (m2 gtD (mI (m2s indexLD (mPeek 1) (mVar 3))) (mI (m2s indexLD (mPeek 1) (mI (m2 addD (mPeek 3) (mC (.int 1))))))))) (mVar 3))) (mC (.int 0))))
    (sSeq (sPar 4 5 (m2s indexLD (mPeek 1) (mVar 3)) (m2s indexLD (mPeek 1) (mI (m2 addD (mPeek 3) (mC (.int 1))))))
    (sSeq (sAsg (mTup (aCons (mI (m2 addD (mPeek 3) (mC (.int 1)))) (aCons (mVar 3) aNil))) (tgTupG [(tgIx 1 (mVar 4)), (tgIx 1 (mVar 5))]))
    (sDrop (mAppend 2 (mVar 3)))))))
    (sRet (m1 tupleD (mPeek 2)))))
@[irreducible] def w_first_word : FS := run 6 m_first_word
theorem w_first_word_def : w_first_word = run 6 m_first_word := by unfold w_first_word; rfl
abbrev w__law_pick : FS := w_pick
def m__law_all_rows : MS := (sSeq (sSet 1 (mLst (aCons (mI (mTup aNil)) aNil)))
    (sSeq (sFor (wRange1 (mVar 0)) (tgName 2) (sSeq (sSet 3 (mLst aNil))
    (sSeq (sFor (wSeq (mVar 1)) (tgName 4) (sSet 3 (m2 addD (mVar 3) (mI (mLc (wRange1 (mVar 0)) true [5] (mT (mI (m2 notinD (mPeek 5) (mPeek 4)))) (mI (m2 addD (mPeek 4) (mI (mTup (aCons (mVar 5) aNil))))))))))
    (sSet 1 (mE (mVar 3))))))
    (sRet (mMove 1))))
@[irreducible] def w__law_all_rows : FS := run 6 m__law_all_rows
theorem w__law_all_rows_def : w__law_all_rows = run 6 m__law_all_rows := by unfold w__law_all_rows; rfl
def m__law_length : MS := (sRet (m1 sumD1 (mI (mLc (wRange1 (mI (m1 lenD (mPeek 0)))) true [2] tYes' (mI (m1 lenD (mI (mLc (wSeq (mI (m3 slD (mPeek 0) (oSome (mI (m2 addD (mPeek 2) (mC (.int 1))))) oNone))) true [1] (mT (mI (m2 ltD (mPeek 1) (mI (m2 ixD (mPeek 0) (mPeek 2)))))) (mVar 1)))))))))
@[irreducible] def w__law_length : FS := run 3 m__law_length
theorem w__law_length_def : w__law_length = run 3 m__law_length := by unfold w__law_length; rfl
def m__law_is_below : MS := (sSeq (sFor (wRange2 (mC (.int 1)) (mI (m1 lenD (mPeek 0)))) (tgName 2) (sFor (wZip (mI (m1 sortedD1 (mI (m3 slD (mPeek 0) oNone (oSome (mVar 2)))))) (mI (m1 sortedD1 (mI (m3 slD (mPeek 1) oNone (oSome (mVar 2))))))) (tgTup [3, 4]) (sIf (mT (mI (m2 gtD (mPeek 3) (mPeek 4)))) (sRet (mE (mC (.bool false)))) sNx)))
    (sRet (mE (mC (.bool true)))))
@[irreducible] def w__law_is_below : FS := run 5 m__law_is_below
theorem w__law_is_below_def : w__law_is_below = run 5 m__law_is_below := by unfold w__law_is_below; rfl
def m__law_exchanged : MS := (sSeq (sSet 3 (m1 listD (mPeek 0)))
    (sSeq (sAsg (mTup (aCons (mI (m2 ixD (mPeek 0) (mPeek 2))) (aCons (mI (m2 ixD (mPeek 0) (mPeek 1))) aNil))) (tgTupG [(tgIx 3 (mVar 1)), (tgIx 3 (mVar 2))]))
    (sRet (m1 tupleD (mPeek 3)))))
@[irreducible] def w__law_exchanged : FS := run 4 m__law_exchanged
theorem w__law_exchanged_def : w__law_exchanged = run 4 m__law_exchanged := by unfold w__law_exchanged; rfl
def m__law_behind : MS := (sRet (m1 tupleD (mI (mLc (wSeq (mVar 1)) true [2] tYes' (mI (m2 ixD (mPeek 0) (mPeek 2)))))))
@[irreducible] def w__law_behind : FS := run 3 m__law_behind
theorem w__law_behind_def : w__law_behind = run 3 m__law_behind := by unfold w__law_behind; rfl
def m__law_other_way : MS := (sRet (m1 tupleD (mI (mLc (wRange1 (mI (m1 lenD (mPeek 0)))) true [1] tYes' (mI (mIndexT 0 (mVar 1)))))))
@[irreducible] def w__law_other_way : FS := run 2 m__law_other_way
theorem w__law_other_way_def : w__law_other_way = run 2 m__law_other_way := by unfold w__law_other_way; rfl
def m_swapped : MS := (sRet (mCall 3 w_exchanged (gNm 0 (gNm 1 (gCons' (mI (m2 addD (mPeek 1) (mC (.int 1)))) gNil')))))
@[irreducible] def w_swapped : FS := run 2 m_swapped
theorem w_swapped_def : w_swapped = run 2 m_swapped := by unfold w_swapped; rfl
def m__law_of : MS := (sRet (m2 ixD (mPeek 1) (mI (mCall 2 w__law_pick (gSrc 0 (gCons' (mI (m1 lenD (mPeek 1))) gNil'))))))
@[irreducible] def w__law_of : FS := run 2 m__law_of
theorem w__law_of_def : w__law_of = run 2 m__law_of := by unfold w__law_of; rfl
def m__law_mixed : MS := (sSeq (sSet 2 (m1 listD (mPeek 1)))
    (sRet (mLc (wRange1 (mI (m1 lenD (mPeek 2)))) true [3] tYes' (mPopAt 2 (mI (mCall 2 w__law_pick (gSrc 0 (gCons' (mI (m1 lenD (mPeek 2))) gNil'))))))))
@[irreducible] def w__law_mixed : FS := run 4 m__law_mixed
theorem w__law_mixed_def : w__law_mixed = run 4 m__law_mixed := by unfold w__law_mixed; rfl
def m__law_steps : MS := (sSeq (sSet 1 (mLst aNil))
    (sSeq (sFor (wRange1 (mI (m1 lenD (mPeek 0)))) (tgName 2) (sFor (wRange2 (mI (m2 addD (mPeek 2) (mC (.int 1)))) (mI (m1 lenD (mPeek 0)))) (tgName 3) (sIf (tAnd (mT (mI (m2 ltD (mI (m2 ixD (mPeek 0) (mPeek 2))) (mI (m2 ixD (mPeek 0) (mPeek 3)))))) (mT (mI (m2 eqD (mI (mLc (wSeq (mI (m3 slD (mPeek 0) (oSome (mI (m2 addD (mPeek 2) (mC (.int 1))))) (oSome (mVar 3))))) true [4] (mT (mI (mChain ltD ltD (mI (m2 ixD (mPeek 0) (mPeek 2))) (mVar 4) (mI (m2 ixD (mPeek 0) (mPeek 3)))))) (mVar 4))) (mI (mLst aNil)))))) (sDrop (mAppend 1 (mI (mTup (aCons (mI (mTup (aCons (mVar 2) (aCons (mVar 3) aNil)))) (aCons (mI (mCall 3 w__law_exchanged (gNm 0 (gNm 2 (gNm 3 gNil'))))) aNil)))))) sNx)))
    (sRet (mMove 1))))
@[irreducible] def w__law_steps : FS := run 5 m__law_steps
theorem w__law_steps_def : w__law_steps = run 5 m__law_steps := by unfold w__law_steps; rfl
def m__law_rows_below : MS := (sRet (mLc (wSeq (mI (mCall 1 w__law_all_rows (gCons' (mI (m1 lenD (mPeek 0))) gNil')))) true [1] (mT (mI (mCall 2 w__law_is_below (gNm 1 (gNm 0 gNil'))))) (mVar 1)))
@[irreducible] def w__law_rows_below : FS := run 2 m__law_rows_below
theorem w__law_rows_below_def : w__law_rows_below = run 2 m__law_rows_below := by unfold w__law_rows_below; rfl
def m_taken_once : MS := (sSeq (sFor (wSeq (mVar 1)) (tgName 2) (sSet 0 (mIf (mT (mI (m2 ltD (mI (m2 ixD (mPeek 0) (mPeek 2))) (mI (m2 ixD (mPeek 0) (mI (m2 addD (mPeek 2) (mC (.int 1))))))))) (mCall 2 w_swapped (gNm 0 (gNm 2 gNil'))) (mE (mVar 0)))))
    (sRet (mMove 0)))
@[irreducible] def w_taken_once : FS := run 3 m_taken_once
theorem w_taken_once_def : w_taken_once = run 3 m_taken_once := by unfold w_taken_once; rfl
def m_taken_less : MS := (sSeq (sFor (wSeq (mI (m1 revD (mPeek 1)))) (tgName 2) (sSet 0 (mIf (mT (mI (m2 gtD (mI (m2 ixD (mPeek 0) (mPeek 2))) (mI (m2 ixD (mPeek 0) (mI (m2 addD (mPeek 2) (mC (.int 1))))))))) (mCall 2 w_swapped (gNm 0 (gNm 2 gNil'))) (mE (mVar 0)))))
    (sRet (mMove 0)))
@[irreducible] def w_taken_less : FS := run 3 m_taken_less
theorem w_taken_less_def : w_taken_less = run 3 m_taken_less := by unfold w_taken_less; rfl
def m__law_row : MS := (sRet (m1 tupleD (mI (mCall 2 w__law_mixed (gSrc 0 (gCons' (mI (mLstRg (wRange1 (mVar 1)))) gNil'))))))
@[irreducible] def w__law_row : FS := run 2 m__law_row
theorem w__law_row_def : w__law_row = run 2 m__law_row := by unfold w__law_row; rfl
def m__law_raised : MS := (sSeq (sFor (wRange1 (mI (mCall 2 w__law_pick (gSrc 0 (gCons' (mI (m2 addD (mPeek 2) (mC (.int 1)))) gNil'))))) (tgName 3) (sSeq (sSet 4 (mCall 1 w__law_steps (gNm 1 gNil')))
    (sSet 1 (mIf (mT (mI (m2 neD (mPeek 4) (mI (mLst aNil))))) (m2 ixD (mI (mCall 2 w__law_of (gSrc 0 (gNm 4 gNil')))) (mC (.int 1))) (mE (mVar 1))))))
    (sRet (mMove 1)))
@[irreducible] def w__law_raised : FS := run 5 m__law_raised
theorem w__law_raised_def : w__law_raised = run 5 m__law_raised := by unfold w__law_raised; rfl
def m_once : MS := (sRet (mCall 2 w_taken_once (gNm 0 (gTmp (mCall 1 w_first_word (gNm 1 gNil')) gNil'))))
@[irreducible] def w_once : FS := run 2 m_once
theorem w_once_def : w_once = run 2 m_once := by unfold w_once; rfl
def m_less : MS := (sRet (mCall 2 w_taken_less (gNm 0 (gTmp (mCall 1 w_first_word (gNm 1 gNil')) gNil'))))
@[irreducible] def w_less : FS := run 2 m_less
theorem w_less_def : w_less = run 2 m_less := by unfold w_less; rfl
def m_law : MS := (sSeq (sFor (wRange1 (mC (.int 3))) (tgName 2) (sSeq (sSet 3 (m2 addD (mC (.int 1)) (mI (mCall 2 w__law_pick (gSrc 1 (gCons' (mC (.int 4)) gNil'))))))
    (sSeq (sAsg (mTup (aCons (mI (mCall 2 w__law_row (gSrc 1 (gNm 3 gNil')))) (aCons (mI (mCall 2 w__law_row (gSrc 1 (gNm 3 gNil')))) (aCons (mI (mCall 2 w__law_row (gSrc 1 (gNm 3 gNil')))) aNil)))) (tgTup [4, 5, 6]))
    (sSeq (sSet 7 (mLc (wSeq (mI (mCall 1 w__law_rows_below (gNm 4 gNil')))) true [8] tYes' (mI (mCall 2 w__law_behind (gNm 8 (gNm 5 gNil'))))))
    (sSeq (sSet 9 (mCall 2 w_once (gNm 4 (gNm 5 gNil'))))
    (sSeq (sIf (mT (mI (m2 neD (mI (mLc (wSeq (mVar 7)) true [10] (tNot (mT (mI (mCall 2 w__law_is_below (gNm 10 (gNm 9 gNil')))))) (mVar 10))) (mI (mLst aNil))))) (sRet (mE (mC (.bool false)))) sNx)
    (sSeq (sSet 7 (mLc (wSeq (mI (mCall 1 w__law_rows_below (gNm 5 gNil')))) true [11] tYes' (mI (mCall 2 w__law_behind (gNm 4 (gNm 11 gNil'))))))
    (sSeq (sIf (tOr (mT (mI (m2 neD (mI (mLc (wSeq (mVar 7)) true [10] (tNot (mT (mI (mCall 2 w__law_is_below (gNm 10 (gNm 9 gNil')))))) (mVar 10))) (mI (mLst aNil))))) (mT (mI (m2 notinD (mPeek 9) (mPeek 7))))) (sRet (mE (mC (.bool false)))) sNx)
    (sSeq (sSet 12 (mLc (wSeq (mI (mCall 1 w__law_rows_below (gNm 5 gNil')))) true [11] tYes' (mI (mCall 2 w__law_behind (gNm 4 (gTmp (mCall 1 w__law_other_way (gNm 11 gNil')) gNil'))))))
    (sSeq (sSet 13 (mCall 2 w_less (gNm 4 (gNm 5 gNil'))))
    (sSeq (sIf (tOr (mT (mI (m2 neD (mI (mLc (wSeq (mVar 12)) true [10] (tNot (mT (mI (mCall 2 w__law_is_below (gNm 13 (gNm 10 gNil')))))) (mVar 10))) (mI (mLst aNil))))) (mT (mI (m2 notinD (mPeek 13) (mPeek 12))))) (sRet (mE (mC (.bool false)))) sNx)
    (sSeq (sIf (tOr (mT (mI (m2 neD (mI (mCall 2 w_once (gTmp (mCall 2 w_once (gNm 4 (gNm 5 gNil'))) (gNm 6 gNil')))) (mI (mCall 2 w_once (gNm 4 (gTmp (mCall 2 w_once (gNm 5 (gNm 6 gNil'))) gNil'))))))) (mT (mI (m2 neD (mI (mCall 2 w_less (gTmp (mCall 2 w_less (gNm 4 (gNm 5 gNil'))) (gNm 6 gNil')))) (mI (mCall 2 w_less (gNm 4 (gTmp (mCall 2 w_once (gNm 6 (gNm 5 gNil'))) gNil')))))))) (sRet (mE (mC (.bool false)))) sNx)
    (sSeq (sSet 14 (m2 eqD (mI (mCall 1 w__law_length (gTmp (mCall 2 w__law_behind (gNm 4 (gNm 5 gNil'))) gNil'))) (mI (m2 addD (mI (mCall 1 w__law_length (gNm 4 gNil'))) (mI (mCall 1 w__law_length (gNm 5 gNil')))))))
    (sSeq (sIf (tOr (mT (mI (m2 neD (mI (m2 eqD (mPeek 9) (mI (mCall 2 w__law_behind (gNm 4 (gNm 5 gNil')))))) (mPeek 14)))) (mT (mI (m2 ltD (mI (mCall 1 w__law_length (gNm 9 gNil'))) (mI (mA maxD (aCons (mI (mCall 1 w__law_length (gNm 4 gNil'))) (aCons (mI (mCall 1 w__law_length (gNm 5 gNil'))) aNil)))))))) (sRet (mE (mC (.bool false)))) sNx)
    (sFor (wRange1 (mC (.int 4))) (tgName 15) (sSeq (sSet 3 (m2 addD (mC (.int 1)) (mI (mCall 2 w__law_pick (gSrc 1 (gCons' (mC (.int 12)) gNil'))))))
    (sSeq (sAsg (mTup (aCons (mI (mCall 2 w__law_row (gSrc 1 (gNm 3 gNil')))) (aCons (mI (mCall 2 w__law_row (gSrc 1 (gNm 3 gNil')))) (aCons (mI (mCall 2 w__law_row (gSrc 1 (gNm 3 gNil')))) aNil)))) (tgTup [4, 5, 16]))
    (sSeq (sSet 16 (mIf (mT (mI (m2 eqD (mI (mCall 2 w__law_pick (gSrc 1 (gCons' (mC (.int 2)) gNil')))) (mC (.int 0))))) (mE (mVar 16)) (mCall 2 w_less (gTmp (mCall 2 w_once (gNm 4 (gNm 5 gNil'))) (gTmp (mCall 3 w__law_raised (gSrc 1 (gTmp (mTupRg (wRange1 (mVar 3))) (gCons' (mC (.int 2)) gNil')))) gNil')))))
    (sIf (mT (mI (m2 neD (mI (mCall 2 w__law_is_below (gNm 16 (gTmp (mCall 2 w_once (gNm 4 (gNm 5 gNil'))) gNil')))) (mI (mCall 2 w__law_is_below (gTmp (mCall 2 w_less (gNm 16 (gNm 5 gNil'))) (gNm 4 gNil'))))))) (sRet (mE (mC (.bool false)))) sNx)))))))))))))))))))
    (sRet (mE (mC (.bool true)))))
end T

set_option Elab.async false
set_option linter.all false
set_option autoImplicit false
set_option maxRecDepth 100000
set_option maxHeartbeats 8000000
namespace T
open PySem PySem.Spec L2 PV
section
variable {P : Program} {w : World} {K : PySem.W.Frag} {mg : Str → Option Value} {base : Heap}
theorem c_exchanged (B : Blt mg) (F : Fct K mg "exchanged" s_exchanged ["row", "i", "j"]) : Cal P w K mg base "exchanged" 1 ["row", "i", "j"] w_exchanged := by
  rw [w_exchanged_def]
  exact Cal.of F sc_exchanged fun f cd A outer s H E hr hG => (vss_cons (vs_set (i := 3) sc_exchanged.nd (ve_callT1 list_V (by rfl) B.list (by decide +kernel) (vb_peek 0)))
    (vss_cons (vs_asg (ve_tup (va_cons (vi_of (ve_ixB (vb_peek 3) (vb_peek 2))) (va_cons (vi_of (ve_ixB (vb_peek 3) (vb_peek 1))) va_nil))) (vg_tupG rfl (vgq_cons (vg_ix (pn 3) (vi_var 1)) (vgq_cons (vg_ix (pn 3) (vi_var 2)) vgq_nil))))
    (vss_one (vs_ret (ve_callT1 tuple_V (by rfl) B.tuple (by decide +kernel) (vb_peek 3))))))
theorem c_first_word (B : Blt mg) (F : Fct K mg "first_word" s_first_word ["row"]) : Cal P w K mg base "first_word" 1 ["row"] w_first_word := by
  rw [w_first_word_def]
  exact Cal.of F sc_first_word fun f cd A outer s H E hr hG => (vss_cons (vs_parT rfl sc_first_word.nd (ve_callT1 list_V (by rfl) B.list (by decide +kernel) (vb_peek 0)) (ve_lst va_nil) (i := 1) (j := 2))
    (vss_cons (vs_while 100000 (vt_cmpB (ne_V hr.units) (vb_peek 1) (vb_of (vi_of (ve_call1 (sorted_V1 hr hG rfl) (by rfl) B.sorted (by decide +kernel) (vb_peek 1)))) (nomark _)) (vss_cons (vs_set (i := 3) sc_first_word.nd (ve_ix (vi_of (ve_lc (own := [("k", 3)]) (one := true) rfl sc_first_word.nd (vw_range1 (vi_of (ve_op sub_V (vi_of (ve_call1 len_V (by rfl) B.len (by decide +kernel) (vb_peek 1))) (vb_of vi_int) )) (by rfl) B.range) (blkOk_by (own := [("k", 3)]) (N := ["row", "here", "found", "k", "i", "j"]) (sc := defScope s_first_word) (by decide +kernel)) (fun _ _ _ _ _ => ng_name 3 sc_first_word.nd) (fun _ _ _ _ _ => vts_one (vt_cmp gt_V (vi_of (ve_indexL hr (vb_peek 1) (vi_var 3))) (vb_of (vi_of (ve_indexL hr (vb_peek 1) (vi_of (ve_opB add_V (vb_peek 3) (vb_of vi_int) ))))) (nomark _))) (fun _ _ _ _ _ => (vi_var 3)))) (vb_of vi_int)))
    (vss_cons (vs_par rfl sc_first_word.nd (ve_indexL hr (vb_peek 1) (vi_var 3)) (ve_indexL hr (vb_peek 1) (vi_of (ve_opB add_V (vb_peek 3) (vb_of vi_int) ))) (by rfl) (by decide) (i := 4) (j := 5))
    (vss_cons (vs_asg (ve_tup (va_cons (vi_of (ve_opB add_V (vb_peek 3) (vb_of vi_int) )) (va_cons (vi_var 3) va_nil))) (vg_tupG rfl (vgq_cons (vg_ix (pn 1) (vi_var 4)) (vgq_cons (vg_ix (pn 1) (vi_var 5)) vgq_nil))))
    (vss_one (vs_expr (ve_append (pn 2) (vi_var 3))))))) PassesOwn.never)
    (vss_one (vs_ret (ve_callT1 tuple_V (by rfl) B.tuple (by decide +kernel) (vb_peek 2))))))
theorem c__law_source (B : Blt mg) (F : Fct K mg "_law_source" s__law_source ["script"]) : CalS P w K mg base "_law_source" 1 :=
  CalS.of F sc__law_source fun f cd A outer s H E hr hG => (pss_cons (vs_set (i := 1) sc__law_source.nd (ve_of vi_int)) (pss_cons (vs_for (vw_scr (pn 0)) (vg_name (i := 2) sc__law_source.nd) (vss_one (vs_set (i := 1) sc__law_source.nd (ve_op mod_V (vi_of (ve_callT1 int_V (by rfl) B.int (by decide +kernel) (vb_of (vi_of (ve_op add_V (vi_of (ve_op add_V (vi_of (ve_opB mul_V (vb_peek 1) (vb_of vi_int) )) (vb_of (vi_of (ve_opB mul_V (vb_peek 2) (vb_of vi_int) ))) )) (vb_of vi_int) ))))) (vb_of vi_int) ))) rfl PassesOwn.never) (pss_one (ps_srcret (j := 1) (ve_rev (vb_of (vi_of (ve_lc (own := [("cell", 2)]) (one := true) rfl sc__law_source.nd (vw_scr (pn 0)) (blkOk_by (own := [("cell", 2)]) (N := ["script", "mixed", "cell"]) (sc := defScope s__law_source) (by decide +kernel)) (fun _ _ _ _ _ => ng_name 2 sc__law_source.nd) (fun _ _ _ _ _ => vts_nil) (fun _ _ _ _ _ => (vi_of (ve_call1 abs_V (by rfl) B.abs (by decide +kernel) (vb_peek 2)))))))) (pn 1)))))
theorem c__law_pick (B : Blt mg) (F : Fct K mg "_law_pick" s__law_pick ["source", "many"]) : Cal P w K mg base "_law_pick" 1 ["source", "many"] w__law_pick :=
  Cal.weak (Cal.of (m := m_pick) F sc__law_pick fun f cd A outer s H E hr hG => (vss_cons (vs_srcwhile hr PassesOwn.never (by rfl) B.len (pn 1) (pn 0) (pn 0) (pn 0) (pn 0))
    (vss_cons (vs_set (i := 2) sc__law_pick.nd (ve_of (ve_src hr (.inl rfl) (pn 0))))
    (vss_cons (vs_if (vt_w (vw_or (vt_cmpB lt_V (vb_peek 1) (vb_of vi_int) (nomark _)) (vw_or1 (vt_cmpB gt_V (vb_peek 2) (vb_of vi_int) (nomark _))))) (vss_cons (vs_srcput hr (.inl rfl) (pn 0) (vi_of (ve_opB fdiv_V (vb_peek 2) (vb_of (vi_of (ve_callN (max_V rfl) (by rfl) B.max (by decide +kernel) (va_cons vi_int (va_cons (vi_var 1) va_nil))))) )))
    (vss_one (vs_ret (ve_op mod_V (vi_of (ve_callT1 int_V (by rfl) B.int (by decide +kernel) (vb_peek 2))) (vb_of (vi_of (ve_callN (max_V rfl) (by rfl) B.max (by decide +kernel) (va_cons vi_int (va_cons (vi_var 1) va_nil))))) )))) vss_nil)
    (vss_cons (vs_srcput hr (.inr (.inr rfl)) (pn 0) (vi_of (ve_op add_V (ve_src hr (.inr (.inr rfl)) (pn 0)) (vb_of vi_int) )))
    (vss_cons (vs_set (i := 3) sc__law_pick.nd (ve_op mod_V (vi_of (ve_callT1 int_V (by rfl) B.int (by decide +kernel) (vb_of (vi_of (ve_op add_V (ve_src hr (.inr (.inl rfl)) (pn 0)) (vb_of (vi_of (ve_op mul_V (ve_src hr (.inr (.inr rfl)) (pn 0)) (vb_of vi_int) ))) ))))) (vb_of vi_int) ))
    (vss_cons (vs_set (i := 3) sc__law_pick.nd (ve_op mod_V (vi_of (ve_callT1 int_V (by rfl) B.int (by decide +kernel) (vb_of (vi_of (ve_op add_V (vi_of (ve_opB mul_V (vb_peek 3) (vb_peek 3) )) (vb_of (vi_of (ve_op mul_V (ve_src hr (.inr (.inr rfl)) (pn 0)) (vb_of vi_int) ))) ))))) (vb_of vi_int) ))
    (vss_cons (vs_srcput hr (.inr (.inl rfl)) (pn 0) (vi_var 3))
    (vss_one (vs_ret (ve_op mod_V (vi_of (ve_callT1 int_V (by rfl) B.int (by decide +kernel) (vb_of (vi_of (ve_opB fdiv_V (vb_peek 3) (vb_of vi_int) ))))) (vb_peek 1) ))))))))))) pick_ok
theorem c__law_all_rows (B : Blt mg) (F : Fct K mg "_law_all_rows" s__law_all_rows ["n"]) : Cal P w K mg base "_law_all_rows" 1 ["n"] w__law_all_rows := by
  rw [w__law_all_rows_def]
  exact Cal.of F sc__law_all_rows fun f cd A outer s H E hr hG => (vss_cons (vs_set (i := 1) sc__law_all_rows.nd (ve_lst (va_cons (vi_of (ve_tup va_nil)) va_nil)))
    (vss_cons (vs_for (vw_range1 (vi_var 0) (by rfl) B.range) (vg_name (i := 2) sc__law_all_rows.nd) (vss_cons (vs_set (i := 3) sc__law_all_rows.nd (ve_lst va_nil))
    (vss_cons (vs_for (vw_seq (vi_var 1)) (vg_name (i := 4) sc__law_all_rows.nd) (vss_one (vs_set (i := 3) sc__law_all_rows.nd (ve_op add_V (vi_var 3) (vb_of (vi_of (ve_lc (own := [("thing", 5)]) (one := true) rfl sc__law_all_rows.nd (vw_range1 (vi_var 0) (by rfl) B.range) (blkOk_by (own := [("thing", 5)]) (N := ["n", "found", "k", "late", "row", "thing"]) (sc := defScope s__law_all_rows) (by decide +kernel)) (fun _ _ _ _ _ => ng_name 5 sc__law_all_rows.nd) (fun _ _ _ _ _ => vts_one (vt_cmpB (notin_V hr) (vb_peek 5) (vb_peek 4) rfl)) (fun _ _ _ _ _ => (vi_of (ve_opB add_V (vb_peek 4) (vb_of (vi_of (ve_tup (va_cons (vi_var 5) va_nil)))) )))))) ))) rfl PassesOwn.never)
    (vss_one (vs_set (i := 1) sc__law_all_rows.nd (ve_of (vi_var 3)))))) rfl PassesOwn.never)
    (vss_one (vs_ret (ve_move 1)))))
theorem c__law_length (B : Blt mg) (F : Fct K mg "_law_length" s__law_length ["row"]) : Cal P w K mg base "_law_length" 1 ["row"] w__law_length := by
  rw [w__law_length_def]
  exact Cal.of F sc__law_length fun f cd A outer s H E hr hG => (vss_one (vs_ret (ve_call1 (sum_V1 hr hG rfl) (by rfl) B.sum (by decide +kernel) (vb_of (vi_of (ve_lc (own := [("k", 2)]) (one := true) rfl sc__law_length.nd (vw_range1 (vi_of (ve_call1 len_V (by rfl) B.len (by decide +kernel) (vb_peek 0))) (by rfl) B.range) (blkOk_by (own := [("k", 2)]) (N := ["row", "thing", "k"]) (sc := defScope s__law_length) (by decide +kernel)) (fun _ _ _ _ _ => ng_name 2 sc__law_length.nd) (fun _ _ _ _ _ => vts_nil) (fun _ _ _ _ _ => (vi_of (ve_call1 len_V (by rfl) B.len (by decide +kernel) (vb_of (vi_of (ve_lc (own := [("thing", 1)]) (one := true) rfl sc__law_length.nd (vw_seq (vi_of (ve_slice (vb_peek 0) (vo_some (vi_of (ve_opB add_V (vb_peek 2) (vb_of vi_int) ))) vo_none))) (blk_in (own := [("thing", 1)]) (N := ["row", "thing", "k"]) (sc0 := defScope s__law_length) rfl (by decide +kernel)) (fun _ _ _ _ _ => ng_name 1 sc__law_length.nd) (fun _ _ _ _ _ => vts_one (vt_cmpB lt_V (vb_peek 1) (vb_of (vi_of (ve_ixB (vb_peek 0) (vb_peek 2)))) (nomark _))) (fun _ _ _ _ _ => (vi_var 1))))))))))))))
theorem c__law_is_below (B : Blt mg) (F : Fct K mg "_law_is_below" s__law_is_below ["u", "w"]) : Cal P w K mg base "_law_is_below" 1 ["u", "w"] w__law_is_below := by
  rw [w__law_is_below_def]
  exact Cal.of F sc__law_is_below fun f cd A outer s H E hr hG => (vss_cons (vs_for (vw_range2 vi_int (vi_of (ve_call1 len_V (by rfl) B.len (by decide +kernel) (vb_peek 0))) (by rfl) B.range) (vg_name (i := 2) sc__law_is_below.nd) (vss_one (vs_for (vw_zip (vi_of (ve_call1 (sorted_V1 hr hG rfl) (by rfl) B.sorted (by decide +kernel) (vb_of (vi_of (ve_slice (vb_peek 0) vo_none (vo_some (vi_var 2))))))) (vi_of (ve_call1 (sorted_V1 hr hG rfl) (by rfl) B.sorted (by decide +kernel) (vb_of (vi_of (ve_slice (vb_peek 1) vo_none (vo_some (vi_var 2))))))) (by rfl) B.zip) (vg_tup rfl (vgs_cons (i := 3) sc__law_is_below.nd (vgs_cons (i := 4) sc__law_is_below.nd vgs_nil))) (vss_one (vs_if (vt_cmpB gt_V (vb_peek 3) (vb_peek 4) (nomark _)) (vss_one (vs_ret (ve_of vi_bl))) vss_nil)) rfl PassesOwn.never)) rfl PassesOwn.never)
    (vss_one (vs_ret (ve_of vi_bl))))
theorem c__law_exchanged (B : Blt mg) (F : Fct K mg "_law_exchanged" s__law_exchanged ["row", "i", "j"]) : Cal P w K mg base "_law_exchanged" 1 ["row", "i", "j"] w__law_exchanged := by
  rw [w__law_exchanged_def]
  exact Cal.of F sc__law_exchanged fun f cd A outer s H E hr hG => (vss_cons (vs_set (i := 3) sc__law_exchanged.nd (ve_callT1 list_V (by rfl) B.list (by decide +kernel) (vb_peek 0)))
    (vss_cons (vs_asg (ve_tup (va_cons (vi_of (ve_ixB (vb_peek 0) (vb_peek 2))) (va_cons (vi_of (ve_ixB (vb_peek 0) (vb_peek 1))) va_nil))) (vg_tupG rfl (vgq_cons (vg_ix (pn 3) (vi_var 1)) (vgq_cons (vg_ix (pn 3) (vi_var 2)) vgq_nil))))
    (vss_one (vs_ret (ve_callT1 tuple_V (by rfl) B.tuple (by decide +kernel) (vb_peek 3))))))
theorem c__law_behind (B : Blt mg) (F : Fct K mg "_law_behind" s__law_behind ["one", "other"]) : Cal P w K mg base "_law_behind" 1 ["one", "other"] w__law_behind := by
  rw [w__law_behind_def]
  exact Cal.of F sc__law_behind fun f cd A outer s H E hr hG => (vss_one (vs_ret (ve_callT1 tuple_V (by rfl) B.tuple (by decide +kernel) (vb_of (vi_of (ve_lc (own := [("k", 2)]) (one := true) rfl sc__law_behind.nd (vw_seq (vi_var 1)) (blkOk_by (own := [("k", 2)]) (N := ["one", "other", "k"]) (sc := defScope s__law_behind) (by decide +kernel)) (fun _ _ _ _ _ => ng_name 2 sc__law_behind.nd) (fun _ _ _ _ _ => vts_nil) (fun _ _ _ _ _ => (vi_of (ve_ixB (vb_peek 0) (vb_peek 2))))))))))
theorem c__law_other_way (B : Blt mg) (F : Fct K mg "_law_other_way" s__law_other_way ["row"]) : Cal P w K mg base "_law_other_way" 1 ["row"] w__law_other_way := by
  rw [w__law_other_way_def]
  exact Cal.of F sc__law_other_way fun f cd A outer s H E hr hG => (vss_one (vs_ret (ve_callT1 tuple_V (by rfl) B.tuple (by decide +kernel) (vb_of (vi_of (ve_lc (own := [("k", 1)]) (one := true) rfl sc__law_other_way.nd (vw_range1 (vi_of (ve_call1 len_V (by rfl) B.len (by decide +kernel) (vb_peek 0))) (by rfl) B.range) (blkOk_by (own := [("k", 1)]) (N := ["row", "k"]) (sc := defScope s__law_other_way) (by decide +kernel)) (fun _ _ _ _ _ => ng_name 1 sc__law_other_way.nd) (fun _ _ _ _ _ => vts_nil) (fun _ _ _ _ _ => (vi_of (ve_indexT hr (pn 0) (vi_var 1))))))))))
theorem c_swapped (B : Blt mg) (F : Fct K mg "swapped" s_swapped ["row", "k"]) (C_exchanged : Cal P w K mg base "exchanged" 1 ["row", "i", "j"] w_exchanged) : Cal P w K mg base "swapped" 2 ["row", "k"] w_swapped := by
  rw [w_swapped_def]
  exact Cal.of F sc_swapped fun f cd A outer s H E hr hG => (vss_one (vs_ret (ve_cal C_exchanged (by decide) hr hG (by rfl) (vg_nm (pn 0) (vg_nm (pn 1) (vg_cons (vi_of (ve_opB add_V (vb_peek 1) (vb_of vi_int) )) vg_nil))))))
theorem c__law_of (B : Blt mg) (F : Fct K mg "_law_of" s__law_of ["source", "some"]) (C__law_pick : Cal P w K mg base "_law_pick" 1 ["source", "many"] w__law_pick) : Cal P w K mg base "_law_of" 2 ["source", "some"] w__law_of := by
  rw [w__law_of_def]
  exact Cal.of F sc__law_of fun f cd A outer s H E hr hG => (vss_one (vs_ret (ve_ixB (vb_peek 1) (vb_of (vi_of (ve_cal C__law_pick (by decide) hr hG (by rfl) (vg_src (pn 0) (vg_cons (vi_of (ve_call1 len_V (by rfl) B.len (by decide +kernel) (vb_peek 1))) vg_nil))))))))
theorem c__law_mixed (B : Blt mg) (F : Fct K mg "_law_mixed" s__law_mixed ["source", "things"]) (C__law_pick : Cal P w K mg base "_law_pick" 1 ["source", "many"] w__law_pick) : Cal P w K mg base "_law_mixed" 2 ["source", "things"] w__law_mixed := by
  rw [w__law_mixed_def]
  exact Cal.of F sc__law_mixed fun f cd A outer s H E hr hG => (vss_cons (vs_set (i := 2) sc__law_mixed.nd (ve_callT1 list_V (by rfl) B.list (by decide +kernel) (vb_peek 1)))
    (vss_one (vs_ret (ve_lc (own := [("lap", 3)]) (one := true) rfl sc__law_mixed.nd (vw_range1 (vi_of (ve_call1 len_V (by rfl) B.len (by decide +kernel) (vb_peek 2))) (by rfl) B.range) (blkOk_by (own := [("lap", 3)]) (N := ["source", "things", "rest", "lap"]) (sc := defScope s__law_mixed) (by decide +kernel)) (fun _ _ _ _ _ => ng_name 3 sc__law_mixed.nd) (fun _ _ _ _ _ => vts_nil) (fun _ _ _ _ _ => (vi_popAt (pn 2) (vi_of (ve_cal C__law_pick (by decide) hr hG (by rfl) (vg_src (pn 0) (vg_cons (vi_of (ve_call1 len_V (by rfl) B.len (by decide +kernel) (vb_peek 2))) vg_nil))))))))))
theorem c__law_steps (B : Blt mg) (F : Fct K mg "_law_steps" s__law_steps ["u"]) (C__law_exchanged : Cal P w K mg base "_law_exchanged" 1 ["row", "i", "j"] w__law_exchanged) : Cal P w K mg base "_law_steps" 2 ["u"] w__law_steps := by
  rw [w__law_steps_def]
  exact Cal.of F sc__law_steps fun f cd A outer s H E hr hG => (vss_cons (vs_set (i := 1) sc__law_steps.nd (ve_lst va_nil))
    (vss_cons (vs_for (vw_range1 (vi_of (ve_call1 len_V (by rfl) B.len (by decide +kernel) (vb_peek 0))) (by rfl) B.range) (vg_name (i := 2) sc__law_steps.nd) (vss_one (vs_for (vw_range2 (vi_of (ve_opB add_V (vb_peek 2) (vb_of vi_int) )) (vi_of (ve_call1 len_V (by rfl) B.len (by decide +kernel) (vb_peek 0))) (by rfl) B.range) (vg_name (i := 3) sc__law_steps.nd) (vss_one (vs_if (vt_w (vw_and (vt_cmp lt_V (vi_of (ve_ixB (vb_peek 0) (vb_peek 2))) (vb_of (vi_of (ve_ixB (vb_peek 0) (vb_peek 3)))) (nomark _)) (vw_and1 (vt_cmp (eq_V hr.units) (vi_of (ve_lc (own := [("thing", 4)]) (one := true) rfl sc__law_steps.nd (vw_seq (vi_of (ve_slice (vb_peek 0) (vo_some (vi_of (ve_opB add_V (vb_peek 2) (vb_of vi_int) ))) (vo_some (vi_var 3))))) (blkOk_by (own := [("thing", 4)]) (N := ["u", "found", "i", "j", "thing"]) (sc := defScope s__law_steps) (by decide +kernel)) (fun _ _ _ _ _ => ng_name 4 sc__law_steps.nd) (fun _ _ _ _ _ => vts_one (vt_chain lt_V lt_V (vi_of (ve_ixB (vb_peek 0) (vb_peek 2))) (vi_var 4) (vi_of (ve_ixB (vb_peek 0) (vb_peek 3))))) (fun _ _ _ _ _ => (vi_var 4)))) (vb_of (vi_of (ve_lst va_nil))) (nomark _))))) (vss_one (vs_expr (ve_append (pn 1) (vi_of (ve_tup (va_cons (vi_of (ve_tup (va_cons (vi_var 2) (va_cons (vi_var 3) va_nil)))) (va_cons (vi_of (ve_cal C__law_exchanged (by decide) hr hG (by rfl) (vg_nm (pn 0) (vg_nm (pn 2) (vg_nm (pn 3) vg_nil))))) va_nil))))))) vss_nil)) rfl PassesOwn.never)) rfl PassesOwn.never)
    (vss_one (vs_ret (ve_move 1)))))
theorem c__law_rows_below (B : Blt mg) (F : Fct K mg "_law_rows_below" s__law_rows_below ["w"]) (C__law_all_rows : Cal P w K mg base "_law_all_rows" 1 ["n"] w__law_all_rows) (C__law_is_below : Cal P w K mg base "_law_is_below" 1 ["u", "w"] w__law_is_below) : Cal P w K mg base "_law_rows_below" 2 ["w"] w__law_rows_below := by
  rw [w__law_rows_below_def]
  exact Cal.of F sc__law_rows_below fun f cd A outer s H E hr hG => (vss_one (vs_ret (ve_lc (own := [("row", 1)]) (one := true) rfl sc__law_rows_below.nd (vw_seq (vi_of (ve_cal C__law_all_rows (by decide) hr hG (by rfl) (vg_cons (vi_of (ve_call1 len_V (by rfl) B.len (by decide +kernel) (vb_peek 0))) vg_nil)))) (blkOk_by (own := [("row", 1)]) (N := ["w", "row"]) (sc := defScope s__law_rows_below) (by decide +kernel)) (fun _ _ _ _ _ => ng_name 1 sc__law_rows_below.nd) (fun _ _ _ _ _ => vts_one (vt_val (vi_of (ve_cal C__law_is_below (by decide) hr hG (by rfl) (vg_nm (pn 1) (vg_nm (pn 0) vg_nil)))))) (fun _ _ _ _ _ => (vi_var 1)))))
theorem c_taken_once (B : Blt mg) (F : Fct K mg "taken_once" s_taken_once ["row", "word"]) (C_swapped : Cal P w K mg base "swapped" 2 ["row", "k"] w_swapped) : Cal P w K mg base "taken_once" 3 ["row", "word"] w_taken_once := by
  rw [w_taken_once_def]
  exact Cal.of F sc_taken_once fun f cd A outer s H E hr hG => (vss_cons (vs_for (vw_seq (vi_var 1)) (vg_name (i := 2) sc_taken_once.nd) (vss_one (vs_set (i := 0) sc_taken_once.nd (ve_if (vt_cmp lt_V (vi_of (ve_ixB (vb_peek 0) (vb_peek 2))) (vb_of (vi_of (ve_ixB (vb_peek 0) (vb_of (vi_of (ve_opB add_V (vb_peek 2) (vb_of vi_int) )))))) (nomark _)) (ve_cal C_swapped (by decide) hr hG (by rfl) (vg_nm (pn 0) (vg_nm (pn 2) vg_nil))) (ve_of (vi_var 0))))) rfl PassesOwn.never)
    (vss_one (vs_ret (ve_move 0))))
theorem c_taken_less (B : Blt mg) (F : Fct K mg "taken_less" s_taken_less ["row", "word"]) (C_swapped : Cal P w K mg base "swapped" 2 ["row", "k"] w_swapped) : Cal P w K mg base "taken_less" 3 ["row", "word"] w_taken_less := by
  rw [w_taken_less_def]
  exact Cal.of F sc_taken_less fun f cd A outer s H E hr hG => (vss_cons (vs_for (vw_seq (vi_of (ve_rev (vb_peek 1)))) (vg_name (i := 2) sc_taken_less.nd) (vss_one (vs_set (i := 0) sc_taken_less.nd (ve_if (vt_cmp gt_V (vi_of (ve_ixB (vb_peek 0) (vb_peek 2))) (vb_of (vi_of (ve_ixB (vb_peek 0) (vb_of (vi_of (ve_opB add_V (vb_peek 2) (vb_of vi_int) )))))) (nomark _)) (ve_cal C_swapped (by decide) hr hG (by rfl) (vg_nm (pn 0) (vg_nm (pn 2) vg_nil))) (ve_of (vi_var 0))))) rfl PassesOwn.never)
    (vss_one (vs_ret (ve_move 0))))
theorem c__law_row (B : Blt mg) (F : Fct K mg "_law_row" s__law_row ["source", "n"]) (C__law_mixed : Cal P w K mg base "_law_mixed" 2 ["source", "things"] w__law_mixed) : Cal P w K mg base "_law_row" 3 ["source", "n"] w__law_row := by
  rw [w__law_row_def]
  exact Cal.of F sc__law_row fun f cd A outer s H E hr hG => (vss_one (vs_ret (ve_callT1 tuple_V (by rfl) B.tuple (by decide +kernel) (vb_of (vi_of (ve_cal C__law_mixed (by decide) hr hG (by rfl) (vg_src (pn 0) (vg_cons (vi_of (ve_lstRg rfl (by rfl) B.list (vr_1 (vi_var 1) (by rfl) B.range))) vg_nil))))))))
theorem c__law_raised (B : Blt mg) (F : Fct K mg "_law_raised" s__law_raised ["source", "u", "most"]) (C__law_of : Cal P w K mg base "_law_of" 2 ["source", "some"] w__law_of) (C__law_pick : Cal P w K mg base "_law_pick" 1 ["source", "many"] w__law_pick) (C__law_steps : Cal P w K mg base "_law_steps" 2 ["u"] w__law_steps) : Cal P w K mg base "_law_raised" 3 ["source", "u", "most"] w__law_raised := by
  rw [w__law_raised_def]
  exact Cal.of F sc__law_raised fun f cd A outer s H E hr hG => (vss_cons (vs_for (vw_range1 (vi_of (ve_cal C__law_pick (by decide) hr hG (by rfl) (vg_src (pn 0) (vg_cons (vi_of (ve_opB add_V (vb_peek 2) (vb_of vi_int) )) vg_nil)))) (by rfl) B.range) (vg_name (i := 3) sc__law_raised.nd) (vss_cons (vs_set (i := 4) sc__law_raised.nd (ve_cal C__law_steps (by decide) hr hG (by rfl) (vg_nm (pn 1) vg_nil)))
    (vss_one (vs_set (i := 1) sc__law_raised.nd (ve_if (vt_cmpB (ne_V hr.units) (vb_peek 4) (vb_of (vi_of (ve_lst va_nil))) (nomark _)) (ve_ix (vi_of (ve_cal C__law_of (by decide) hr hG (by rfl) (vg_src (pn 0) (vg_nm (pn 4) vg_nil)))) (vb_of vi_int)) (ve_of (vi_var 1)))))) rfl PassesOwn.never)
    (vss_one (vs_ret (ve_move 1))))
theorem c_once (B : Blt mg) (F : Fct K mg "once" s_once ["one", "other"]) (C_first_word : Cal P w K mg base "first_word" 1 ["row"] w_first_word) (C_taken_once : Cal P w K mg base "taken_once" 3 ["row", "word"] w_taken_once) : Cal P w K mg base "once" 4 ["one", "other"] w_once := by
  rw [w_once_def]
  exact Cal.of F sc_once fun f cd A outer s H E hr hG => (vss_one (vs_ret (ve_cal C_taken_once (by decide) hr hG (by rfl) (vg_nm (pn 0) (vg_tmp (ve_cal C_first_word (by decide) hr hG (by rfl) (vg_nm (pn 1) vg_nil)) vg_nil)))))
theorem c_less (B : Blt mg) (F : Fct K mg "less" s_less ["one", "other"]) (C_first_word : Cal P w K mg base "first_word" 1 ["row"] w_first_word) (C_taken_less : Cal P w K mg base "taken_less" 3 ["row", "word"] w_taken_less) : Cal P w K mg base "less" 4 ["one", "other"] w_less := by
  rw [w_less_def]
  exact Cal.of F sc_less fun f cd A outer s H E hr hG => (vss_one (vs_ret (ve_cal C_taken_less (by decide) hr hG (by rfl) (vg_nm (pn 0) (vg_tmp (ve_cal C_first_word (by decide) hr hG (by rfl) (vg_nm (pn 1) vg_nil)) vg_nil)))))
theorem c_law (hm : LawOk 17 m_law) (B : Blt mg) (C__law_behind : Cal P w K mg base "_law_behind" 1 ["one", "other"] w__law_behind) (C__law_is_below : Cal P w K mg base "_law_is_below" 1 ["u", "w"] w__law_is_below) (C__law_length : Cal P w K mg base "_law_length" 1 ["row"] w__law_length) (C__law_other_way : Cal P w K mg base "_law_other_way" 1 ["row"] w__law_other_way) (C__law_pick : Cal P w K mg base "_law_pick" 1 ["source", "many"] w__law_pick) (C__law_raised : Cal P w K mg base "_law_raised" 3 ["source", "u", "most"] w__law_raised) (C__law_row : Cal P w K mg base "_law_row" 3 ["source", "n"] w__law_row) (C__law_rows_below : Cal P w K mg base "_law_rows_below" 2 ["w"] w__law_rows_below) (C_less : Cal P w K mg base "less" 4 ["one", "other"] w_less) (C_once : Cal P w K mg base "once" 4 ["one", "other"] w_once) (C__law_source : CalS P w K mg base "_law_source" 1) {f : Addr} {fd : FuncData} (F : Fun K "law" "law" s_law f fd) : FnG P w K mg base 5 f fd ["script"] (spTrue K) :=
  law_fn F sc_law (by rfl) hm fun f cd A outer s H E hr hG => pss_cons (ps_source (i := 1) (k := 3) C__law_source hr hG (by rfl) sc_law.nd (h0 := pn 0)) (vss_cons (vs_for (vw_range1 vi_int (by rfl) B.range) (vg_name (i := 2) sc_law.nd) (vss_cons (vs_set (i := 3) sc_law.nd (ve_op add_V vi_int (vb_of (vi_of (ve_cal C__law_pick (by decide) hr hG (by rfl) (vg_src (pn 1) (vg_cons vi_int vg_nil))))) ))
    (vss_cons (vs_asg (ve_tup (va_cons (vi_of (ve_cal C__law_row (by decide) hr hG (by rfl) (vg_src (pn 1) (vg_nm (pn 3) vg_nil)))) (va_cons (vi_of (ve_cal C__law_row (by decide) hr hG (by rfl) (vg_src (pn 1) (vg_nm (pn 3) vg_nil)))) (va_cons (vi_of (ve_cal C__law_row (by decide) hr hG (by rfl) (vg_src (pn 1) (vg_nm (pn 3) vg_nil)))) va_nil)))) (vg_tup rfl (vgs_cons (i := 4) sc_law.nd (vgs_cons (i := 5) sc_law.nd (vgs_cons (i := 6) sc_law.nd vgs_nil)))))
    (vss_cons (vs_setLc (i := 7) (own := [("one", 8)]) (one := true) rfl sc_law.nd rfl rfl (sw_true rfl rfl rfl (by decide +kernel)) (vw_seq (vi_of (ve_cal C__law_rows_below (by decide) hr hG (by rfl) (vg_nm (pn 4) vg_nil)))) (blkOk_by (own := [("one", 8)]) (N := ["script", "source", "lap", "n", "u", "w", "x", "tops", "one", "told", "row", "other", "lows", "low", "is_plain", "lap_two", "v"]) (sc := defScope s_law) (by decide +kernel)) (fun _ _ _ _ _ => ng_name 8 sc_law.nd) (fun _ _ _ _ _ => vts_nil) (fun _ _ _ _ _ => (vi_of (ve_cal C__law_behind (by decide) hr hG (by rfl) (vg_nm (pn 8) (vg_nm (pn 5) vg_nil))))))
    (vss_cons (vs_set (i := 9) sc_law.nd (ve_cal C_once (by decide) hr hG (by rfl) (vg_nm (pn 4) (vg_nm (pn 5) vg_nil))))
    (vss_cons (vs_if (vt_cmp (ne_V hr.units) (vi_of (ve_lc (own := [("row", 10)]) (one := true) rfl sc_law.nd (vw_seq (vi_var 7)) (blkOk_by (own := [("row", 10)]) (N := ["script", "source", "lap", "n", "u", "w", "x", "tops", "one", "told", "row", "other", "lows", "low", "is_plain", "lap_two", "v"]) (sc := defScope s_law) (by decide +kernel)) (fun _ _ _ _ _ => ng_name 10 sc_law.nd) (fun _ _ _ _ _ => vts_one (pt_not' (vt_val (vi_of (ve_cal C__law_is_below (by decide) hr hG (by rfl) (vg_nm (pn 10) (vg_nm (pn 9) vg_nil))))))) (fun _ _ _ _ _ => (vi_var 10)))) (vb_of (vi_of (ve_lst va_nil))) (nomark _)) (vss_one (vs_ret (ve_of vi_bl))) vss_nil)
    (vss_cons (vs_setLc (i := 7) (own := [("other", 11)]) (one := true) rfl sc_law.nd rfl rfl (sw_true rfl rfl rfl (by decide +kernel)) (vw_seq (vi_of (ve_cal C__law_rows_below (by decide) hr hG (by rfl) (vg_nm (pn 5) vg_nil)))) (blkOk_by (own := [("other", 11)]) (N := ["script", "source", "lap", "n", "u", "w", "x", "tops", "one", "told", "row", "other", "lows", "low", "is_plain", "lap_two", "v"]) (sc := defScope s_law) (by decide +kernel)) (fun _ _ _ _ _ => ng_name 11 sc_law.nd) (fun _ _ _ _ _ => vts_nil) (fun _ _ _ _ _ => (vi_of (ve_cal C__law_behind (by decide) hr hG (by rfl) (vg_nm (pn 4) (vg_nm (pn 11) vg_nil))))))
    (vss_cons (vs_if (vt_w (vw_or (vt_cmp (ne_V hr.units) (vi_of (ve_lc (own := [("row", 10)]) (one := true) rfl sc_law.nd (vw_seq (vi_var 7)) (blkOk_by (own := [("row", 10)]) (N := ["script", "source", "lap", "n", "u", "w", "x", "tops", "one", "told", "row", "other", "lows", "low", "is_plain", "lap_two", "v"]) (sc := defScope s_law) (by decide +kernel)) (fun _ _ _ _ _ => ng_name 10 sc_law.nd) (fun _ _ _ _ _ => vts_one (pt_not' (vt_val (vi_of (ve_cal C__law_is_below (by decide) hr hG (by rfl) (vg_nm (pn 10) (vg_nm (pn 9) vg_nil))))))) (fun _ _ _ _ _ => (vi_var 10)))) (vb_of (vi_of (ve_lst va_nil))) (nomark _)) (vw_or1 (vt_cmpB (notin_V hr) (vb_peek 9) (vb_peek 7) rfl)))) (vss_one (vs_ret (ve_of vi_bl))) vss_nil)
    (vss_cons (vs_setLc (i := 12) (own := [("other", 11)]) (one := true) rfl sc_law.nd rfl rfl (sw_true rfl rfl rfl (by decide +kernel)) (vw_seq (vi_of (ve_cal C__law_rows_below (by decide) hr hG (by rfl) (vg_nm (pn 5) vg_nil)))) (blkOk_by (own := [("other", 11)]) (N := ["script", "source", "lap", "n", "u", "w", "x", "tops", "one", "told", "row", "other", "lows", "low", "is_plain", "lap_two", "v"]) (sc := defScope s_law) (by decide +kernel)) (fun _ _ _ _ _ => ng_name 11 sc_law.nd) (fun _ _ _ _ _ => vts_nil) (fun _ _ _ _ _ => (vi_of (ve_cal C__law_behind (by decide) hr hG (by rfl) (vg_nm (pn 4) (vg_tmp (ve_cal C__law_other_way (by decide) hr hG (by rfl) (vg_nm (pn 11) vg_nil)) vg_nil))))))
    (vss_cons (vs_set (i := 13) sc_law.nd (ve_cal C_less (by decide) hr hG (by rfl) (vg_nm (pn 4) (vg_nm (pn 5) vg_nil))))
    (vss_cons (vs_if (vt_w (vw_or (vt_cmp (ne_V hr.units) (vi_of (ve_lc (own := [("row", 10)]) (one := true) rfl sc_law.nd (vw_seq (vi_var 12)) (blkOk_by (own := [("row", 10)]) (N := ["script", "source", "lap", "n", "u", "w", "x", "tops", "one", "told", "row", "other", "lows", "low", "is_plain", "lap_two", "v"]) (sc := defScope s_law) (by decide +kernel)) (fun _ _ _ _ _ => ng_name 10 sc_law.nd) (fun _ _ _ _ _ => vts_one (pt_not' (vt_val (vi_of (ve_cal C__law_is_below (by decide) hr hG (by rfl) (vg_nm (pn 13) (vg_nm (pn 10) vg_nil))))))) (fun _ _ _ _ _ => (vi_var 10)))) (vb_of (vi_of (ve_lst va_nil))) (nomark _)) (vw_or1 (vt_cmpB (notin_V hr) (vb_peek 13) (vb_peek 12) rfl)))) (vss_one (vs_ret (ve_of vi_bl))) vss_nil)
    (vss_cons (vs_if (vt_w (vw_or (vt_cmp (ne_V hr.units) (vi_of (ve_cal C_once (by decide) hr hG (by rfl) (vg_tmp (ve_cal C_once (by decide) hr hG (by rfl) (vg_nm (pn 4) (vg_nm (pn 5) vg_nil))) (vg_nm (pn 6) vg_nil)))) (vb_of (vi_of (ve_cal C_once (by decide) hr hG (by rfl) (vg_nm (pn 4) (vg_tmp (ve_cal C_once (by decide) hr hG (by rfl) (vg_nm (pn 5) (vg_nm (pn 6) vg_nil))) vg_nil))))) (nomark _)) (vw_or1 (vt_cmp (ne_V hr.units) (vi_of (ve_cal C_less (by decide) hr hG (by rfl) (vg_tmp (ve_cal C_less (by decide) hr hG (by rfl) (vg_nm (pn 4) (vg_nm (pn 5) vg_nil))) (vg_nm (pn 6) vg_nil)))) (vb_of (vi_of (ve_cal C_less (by decide) hr hG (by rfl) (vg_nm (pn 4) (vg_tmp (ve_cal C_once (by decide) hr hG (by rfl) (vg_nm (pn 6) (vg_nm (pn 5) vg_nil))) vg_nil))))) (nomark _))))) (vss_one (vs_ret (ve_of vi_bl))) vss_nil)
    (vss_cons (vs_set (i := 14) sc_law.nd (ve_cmp (eq_V hr.units) (vi_of (ve_cal C__law_length (by decide) hr hG (by rfl) (vg_tmp (ve_cal C__law_behind (by decide) hr hG (by rfl) (vg_nm (pn 4) (vg_nm (pn 5) vg_nil))) vg_nil))) (vb_of (vi_of (ve_op add_V (vi_of (ve_cal C__law_length (by decide) hr hG (by rfl) (vg_nm (pn 4) vg_nil))) (vb_of (vi_of (ve_cal C__law_length (by decide) hr hG (by rfl) (vg_nm (pn 5) vg_nil)))) ))) (nomark _)))
    (vss_cons (vs_if (vt_w (vw_or (vt_cmp (ne_V hr.units) (vi_of (ve_cmpB (eq_V hr.units) (vb_peek 9) (vb_of (vi_of (ve_cal C__law_behind (by decide) hr hG (by rfl) (vg_nm (pn 4) (vg_nm (pn 5) vg_nil))))) (nomark _))) (vb_peek 14) (nomark _)) (vw_or1 (vt_cmp lt_V (vi_of (ve_cal C__law_length (by decide) hr hG (by rfl) (vg_nm (pn 9) vg_nil))) (vb_of (vi_of (ve_callN (max_V rfl) (by rfl) B.max (by decide +kernel) (va_cons (vi_of (ve_cal C__law_length (by decide) hr hG (by rfl) (vg_nm (pn 4) vg_nil))) (va_cons (vi_of (ve_cal C__law_length (by decide) hr hG (by rfl) (vg_nm (pn 5) vg_nil))) va_nil))))) (nomark _))))) (vss_one (vs_ret (ve_of vi_bl))) vss_nil)
    (vss_one (vs_for (vw_range1 vi_int (by rfl) B.range) (vg_name (i := 15) sc_law.nd) (vss_cons (vs_set (i := 3) sc_law.nd (ve_op add_V vi_int (vb_of (vi_of (ve_cal C__law_pick (by decide) hr hG (by rfl) (vg_src (pn 1) (vg_cons vi_int vg_nil))))) ))
    (vss_cons (vs_asg (ve_tup (va_cons (vi_of (ve_cal C__law_row (by decide) hr hG (by rfl) (vg_src (pn 1) (vg_nm (pn 3) vg_nil)))) (va_cons (vi_of (ve_cal C__law_row (by decide) hr hG (by rfl) (vg_src (pn 1) (vg_nm (pn 3) vg_nil)))) (va_cons (vi_of (ve_cal C__law_row (by decide) hr hG (by rfl) (vg_src (pn 1) (vg_nm (pn 3) vg_nil)))) va_nil)))) (vg_tup rfl (vgs_cons (i := 4) sc_law.nd (vgs_cons (i := 5) sc_law.nd (vgs_cons (i := 16) sc_law.nd vgs_nil)))))
    (vss_cons (vs_set (i := 16) sc_law.nd (ve_if (vt_cmp (eq_V hr.units) (vi_of (ve_cal C__law_pick (by decide) hr hG (by rfl) (vg_src (pn 1) (vg_cons vi_int vg_nil)))) (vb_of vi_int) (nomark _)) (ve_of (vi_var 16)) (ve_cal C_less (by decide) hr hG (by rfl) (vg_tmp (ve_cal C_once (by decide) hr hG (by rfl) (vg_nm (pn 4) (vg_nm (pn 5) vg_nil))) (vg_tmp (ve_cal C__law_raised (by decide) hr hG (by rfl) (vg_src (pn 1) (vg_tmp (ve_tupRg rfl (by rfl) B.tuple (vr_1 (vi_var 3) (by rfl) B.range)) (vg_cons vi_int vg_nil)))) vg_nil)))))
    (vss_one (vs_if (vt_cmp (ne_V hr.units) (vi_of (ve_cal C__law_is_below (by decide) hr hG (by rfl) (vg_nm (pn 16) (vg_tmp (ve_cal C_once (by decide) hr hG (by rfl) (vg_nm (pn 4) (vg_nm (pn 5) vg_nil))) vg_nil)))) (vb_of (vi_of (ve_cal C__law_is_below (by decide) hr hG (by rfl) (vg_tmp (ve_cal C_less (by decide) hr hG (by rfl) (vg_nm (pn 16) (vg_nm (pn 5) vg_nil))) (vg_nm (pn 4) vg_nil))))) (nomark _)) (vss_one (vs_ret (ve_of vi_bl))) vss_nil))))) rfl PassesOwn.never))))))))))))))) rfl PassesOwn.never)
    (vss_one (vs_ret (ve_of vi_bl))))
end
theorem all_mk {P : Program} {w : World} {K : PySem.W.Frag} {h : Heap} {mg : Str → Option Value} {fa : Addr} (hm : LawOk 17 m_law) (X : K.In h) (G : h.Ns mainGlobals mg) (hfa : mg "law" = some (.ref fa))
    {f0 : Addr} {od0 an0 : Option Addr} {sl0 : Array (Option Value)} {oc0 kV0 dc0 pm0 cd0 ct0 : Value} (a0 : PySem.W.nsIn K mainGlobals "exchanged" = some (some (.ref f0))) (l0 : K.lookup f0 = some ⟨oc0, od0, .func (PySem.W.fnOf "exchanged" "exchanged" (defArgs s_exchanged) (defBody s_exchanged) (defScope s_exchanged) .none kV0 dc0 pm0 an0 cd0 ct0), sl0⟩) (c0 : PySem.W.codeIn K cd0 "exchanged" = true) (k0 : PySem.W.keepIn K (.ref f0) = true)
    {f1 : Addr} {od1 an1 : Option Addr} {sl1 : Array (Option Value)} {oc1 kV1 dc1 pm1 cd1 ct1 : Value} (a1 : PySem.W.nsIn K mainGlobals "first_word" = some (some (.ref f1))) (l1 : K.lookup f1 = some ⟨oc1, od1, .func (PySem.W.fnOf "first_word" "first_word" (defArgs s_first_word) (defBody s_first_word) (defScope s_first_word) .none kV1 dc1 pm1 an1 cd1 ct1), sl1⟩) (c1 : PySem.W.codeIn K cd1 "first_word" = true) (k1 : PySem.W.keepIn K (.ref f1) = true)
    {f2 : Addr} {od2 an2 : Option Addr} {sl2 : Array (Option Value)} {oc2 kV2 dc2 pm2 cd2 ct2 : Value} (a2 : PySem.W.nsIn K mainGlobals "_law_source" = some (some (.ref f2))) (l2 : K.lookup f2 = some ⟨oc2, od2, .func (PySem.W.fnOf "_law_source" "_law_source" (defArgs s__law_source) (defBody s__law_source) (defScope s__law_source) .none kV2 dc2 pm2 an2 cd2 ct2), sl2⟩) (c2 : PySem.W.codeIn K cd2 "_law_source" = true) (k2 : PySem.W.keepIn K (.ref f2) = true)
    {f3 : Addr} {od3 an3 : Option Addr} {sl3 : Array (Option Value)} {oc3 kV3 dc3 pm3 cd3 ct3 : Value} (a3 : PySem.W.nsIn K mainGlobals "_law_pick" = some (some (.ref f3))) (l3 : K.lookup f3 = some ⟨oc3, od3, .func (PySem.W.fnOf "_law_pick" "_law_pick" (defArgs s__law_pick) (defBody s__law_pick) (defScope s__law_pick) .none kV3 dc3 pm3 an3 cd3 ct3), sl3⟩) (c3 : PySem.W.codeIn K cd3 "_law_pick" = true) (k3 : PySem.W.keepIn K (.ref f3) = true)
    {f4 : Addr} {od4 an4 : Option Addr} {sl4 : Array (Option Value)} {oc4 kV4 dc4 pm4 cd4 ct4 : Value} (a4 : PySem.W.nsIn K mainGlobals "_law_all_rows" = some (some (.ref f4))) (l4 : K.lookup f4 = some ⟨oc4, od4, .func (PySem.W.fnOf "_law_all_rows" "_law_all_rows" (defArgs s__law_all_rows) (defBody s__law_all_rows) (defScope s__law_all_rows) .none kV4 dc4 pm4 an4 cd4 ct4), sl4⟩) (c4 : PySem.W.codeIn K cd4 "_law_all_rows" = true) (k4 : PySem.W.keepIn K (.ref f4) = true)
    {f5 : Addr} {od5 an5 : Option Addr} {sl5 : Array (Option Value)} {oc5 kV5 dc5 pm5 cd5 ct5 : Value} (a5 : PySem.W.nsIn K mainGlobals "_law_length" = some (some (.ref f5))) (l5 : K.lookup f5 = some ⟨oc5, od5, .func (PySem.W.fnOf "_law_length" "_law_length" (defArgs s__law_length) (defBody s__law_length) (defScope s__law_length) .none kV5 dc5 pm5 an5 cd5 ct5), sl5⟩) (c5 : PySem.W.codeIn K cd5 "_law_length" = true) (k5 : PySem.W.keepIn K (.ref f5) = true)
    {f6 : Addr} {od6 an6 : Option Addr} {sl6 : Array (Option Value)} {oc6 kV6 dc6 pm6 cd6 ct6 : Value} (a6 : PySem.W.nsIn K mainGlobals "_law_is_below" = some (some (.ref f6))) (l6 : K.lookup f6 = some ⟨oc6, od6, .func (PySem.W.fnOf "_law_is_below" "_law_is_below" (defArgs s__law_is_below) (defBody s__law_is_below) (defScope s__law_is_below) .none kV6 dc6 pm6 an6 cd6 ct6), sl6⟩) (c6 : PySem.W.codeIn K cd6 "_law_is_below" = true) (k6 : PySem.W.keepIn K (.ref f6) = true)
    {f7 : Addr} {od7 an7 : Option Addr} {sl7 : Array (Option Value)} {oc7 kV7 dc7 pm7 cd7 ct7 : Value} (a7 : PySem.W.nsIn K mainGlobals "_law_exchanged" = some (some (.ref f7))) (l7 : K.lookup f7 = some ⟨oc7, od7, .func (PySem.W.fnOf "_law_exchanged" "_law_exchanged" (defArgs s__law_exchanged) (defBody s__law_exchanged) (defScope s__law_exchanged) .none kV7 dc7 pm7 an7 cd7 ct7), sl7⟩) (c7 : PySem.W.codeIn K cd7 "_law_exchanged" = true) (k7 : PySem.W.keepIn K (.ref f7) = true)
    {f8 : Addr} {od8 an8 : Option Addr} {sl8 : Array (Option Value)} {oc8 kV8 dc8 pm8 cd8 ct8 : Value} (a8 : PySem.W.nsIn K mainGlobals "_law_behind" = some (some (.ref f8))) (l8 : K.lookup f8 = some ⟨oc8, od8, .func (PySem.W.fnOf "_law_behind" "_law_behind" (defArgs s__law_behind) (defBody s__law_behind) (defScope s__law_behind) .none kV8 dc8 pm8 an8 cd8 ct8), sl8⟩) (c8 : PySem.W.codeIn K cd8 "_law_behind" = true) (k8 : PySem.W.keepIn K (.ref f8) = true)
    {f9 : Addr} {od9 an9 : Option Addr} {sl9 : Array (Option Value)} {oc9 kV9 dc9 pm9 cd9 ct9 : Value} (a9 : PySem.W.nsIn K mainGlobals "_law_other_way" = some (some (.ref f9))) (l9 : K.lookup f9 = some ⟨oc9, od9, .func (PySem.W.fnOf "_law_other_way" "_law_other_way" (defArgs s__law_other_way) (defBody s__law_other_way) (defScope s__law_other_way) .none kV9 dc9 pm9 an9 cd9 ct9), sl9⟩) (c9 : PySem.W.codeIn K cd9 "_law_other_way" = true) (k9 : PySem.W.keepIn K (.ref f9) = true)
    {f10 : Addr} {od10 an10 : Option Addr} {sl10 : Array (Option Value)} {oc10 kV10 dc10 pm10 cd10 ct10 : Value} (a10 : PySem.W.nsIn K mainGlobals "swapped" = some (some (.ref f10))) (l10 : K.lookup f10 = some ⟨oc10, od10, .func (PySem.W.fnOf "swapped" "swapped" (defArgs s_swapped) (defBody s_swapped) (defScope s_swapped) .none kV10 dc10 pm10 an10 cd10 ct10), sl10⟩) (c10 : PySem.W.codeIn K cd10 "swapped" = true) (k10 : PySem.W.keepIn K (.ref f10) = true)
    {f11 : Addr} {od11 an11 : Option Addr} {sl11 : Array (Option Value)} {oc11 kV11 dc11 pm11 cd11 ct11 : Value} (a11 : PySem.W.nsIn K mainGlobals "_law_of" = some (some (.ref f11))) (l11 : K.lookup f11 = some ⟨oc11, od11, .func (PySem.W.fnOf "_law_of" "_law_of" (defArgs s__law_of) (defBody s__law_of) (defScope s__law_of) .none kV11 dc11 pm11 an11 cd11 ct11), sl11⟩) (c11 : PySem.W.codeIn K cd11 "_law_of" = true) (k11 : PySem.W.keepIn K (.ref f11) = true)
    {f12 : Addr} {od12 an12 : Option Addr} {sl12 : Array (Option Value)} {oc12 kV12 dc12 pm12 cd12 ct12 : Value} (a12 : PySem.W.nsIn K mainGlobals "_law_mixed" = some (some (.ref f12))) (l12 : K.lookup f12 = some ⟨oc12, od12, .func (PySem.W.fnOf "_law_mixed" "_law_mixed" (defArgs s__law_mixed) (defBody s__law_mixed) (defScope s__law_mixed) .none kV12 dc12 pm12 an12 cd12 ct12), sl12⟩) (c12 : PySem.W.codeIn K cd12 "_law_mixed" = true) (k12 : PySem.W.keepIn K (.ref f12) = true)
    {f13 : Addr} {od13 an13 : Option Addr} {sl13 : Array (Option Value)} {oc13 kV13 dc13 pm13 cd13 ct13 : Value} (a13 : PySem.W.nsIn K mainGlobals "_law_steps" = some (some (.ref f13))) (l13 : K.lookup f13 = some ⟨oc13, od13, .func (PySem.W.fnOf "_law_steps" "_law_steps" (defArgs s__law_steps) (defBody s__law_steps) (defScope s__law_steps) .none kV13 dc13 pm13 an13 cd13 ct13), sl13⟩) (c13 : PySem.W.codeIn K cd13 "_law_steps" = true) (k13 : PySem.W.keepIn K (.ref f13) = true)
    {f14 : Addr} {od14 an14 : Option Addr} {sl14 : Array (Option Value)} {oc14 kV14 dc14 pm14 cd14 ct14 : Value} (a14 : PySem.W.nsIn K mainGlobals "_law_rows_below" = some (some (.ref f14))) (l14 : K.lookup f14 = some ⟨oc14, od14, .func (PySem.W.fnOf "_law_rows_below" "_law_rows_below" (defArgs s__law_rows_below) (defBody s__law_rows_below) (defScope s__law_rows_below) .none kV14 dc14 pm14 an14 cd14 ct14), sl14⟩) (c14 : PySem.W.codeIn K cd14 "_law_rows_below" = true) (k14 : PySem.W.keepIn K (.ref f14) = true)
    {f15 : Addr} {od15 an15 : Option Addr} {sl15 : Array (Option Value)} {oc15 kV15 dc15 pm15 cd15 ct15 : Value} (a15 : PySem.W.nsIn K mainGlobals "taken_once" = some (some (.ref f15))) (l15 : K.lookup f15 = some ⟨oc15, od15, .func (PySem.W.fnOf "taken_once" "taken_once" (defArgs s_taken_once) (defBody s_taken_once) (defScope s_taken_once) .none kV15 dc15 pm15 an15 cd15 ct15), sl15⟩) (c15 : PySem.W.codeIn K cd15 "taken_once" = true) (k15 : PySem.W.keepIn K (.ref f15) = true)
    {f16 : Addr} {od16 an16 : Option Addr} {sl16 : Array (Option Value)} {oc16 kV16 dc16 pm16 cd16 ct16 : Value} (a16 : PySem.W.nsIn K mainGlobals "taken_less" = some (some (.ref f16))) (l16 : K.lookup f16 = some ⟨oc16, od16, .func (PySem.W.fnOf "taken_less" "taken_less" (defArgs s_taken_less) (defBody s_taken_less) (defScope s_taken_less) .none kV16 dc16 pm16 an16 cd16 ct16), sl16⟩) (c16 : PySem.W.codeIn K cd16 "taken_less" = true) (k16 : PySem.W.keepIn K (.ref f16) = true)
    {f17 : Addr} {od17 an17 : Option Addr} {sl17 : Array (Option Value)} {oc17 kV17 dc17 pm17 cd17 ct17 : Value} (a17 : PySem.W.nsIn K mainGlobals "_law_row" = some (some (.ref f17))) (l17 : K.lookup f17 = some ⟨oc17, od17, .func (PySem.W.fnOf "_law_row" "_law_row" (defArgs s__law_row) (defBody s__law_row) (defScope s__law_row) .none kV17 dc17 pm17 an17 cd17 ct17), sl17⟩) (c17 : PySem.W.codeIn K cd17 "_law_row" = true) (k17 : PySem.W.keepIn K (.ref f17) = true)
    {f18 : Addr} {od18 an18 : Option Addr} {sl18 : Array (Option Value)} {oc18 kV18 dc18 pm18 cd18 ct18 : Value} (a18 : PySem.W.nsIn K mainGlobals "_law_raised" = some (some (.ref f18))) (l18 : K.lookup f18 = some ⟨oc18, od18, .func (PySem.W.fnOf "_law_raised" "_law_raised" (defArgs s__law_raised) (defBody s__law_raised) (defScope s__law_raised) .none kV18 dc18 pm18 an18 cd18 ct18), sl18⟩) (c18 : PySem.W.codeIn K cd18 "_law_raised" = true) (k18 : PySem.W.keepIn K (.ref f18) = true)
    {f19 : Addr} {od19 an19 : Option Addr} {sl19 : Array (Option Value)} {oc19 kV19 dc19 pm19 cd19 ct19 : Value} (a19 : PySem.W.nsIn K mainGlobals "once" = some (some (.ref f19))) (l19 : K.lookup f19 = some ⟨oc19, od19, .func (PySem.W.fnOf "once" "once" (defArgs s_once) (defBody s_once) (defScope s_once) .none kV19 dc19 pm19 an19 cd19 ct19), sl19⟩) (c19 : PySem.W.codeIn K cd19 "once" = true) (k19 : PySem.W.keepIn K (.ref f19) = true)
    {f20 : Addr} {od20 an20 : Option Addr} {sl20 : Array (Option Value)} {oc20 kV20 dc20 pm20 cd20 ct20 : Value} (a20 : PySem.W.nsIn K mainGlobals "less" = some (some (.ref f20))) (l20 : K.lookup f20 = some ⟨oc20, od20, .func (PySem.W.fnOf "less" "less" (defArgs s_less) (defBody s_less) (defScope s_less) .none kV20 dc20 pm20 an20 cd20 ct20), sl20⟩) (c20 : PySem.W.codeIn K cd20 "less" = true) (k20 : PySem.W.keepIn K (.ref f20) = true)
    {f21 : Addr} {od21 an21 : Option Addr} {sl21 : Array (Option Value)} {oc21 kV21 dc21 pm21 cd21 ct21 : Value} (a21 : PySem.W.nsIn K mainGlobals "law" = some (some (.ref f21))) (l21 : K.lookup f21 = some ⟨oc21, od21, .func (PySem.W.fnOf "law" "law" (defArgs s_law) (defBody s_law) (defScope s_law) .none kV21 dc21 pm21 an21 cd21 ct21), sl21⟩) (c21 : PySem.W.codeIn K cd21 "law" = true) (k21 : PySem.W.keepIn K (.ref f21) = true)
    (z_len : PySem.W.nsIn K mainGlobals "len" = some none)
    (z_range : PySem.W.nsIn K mainGlobals "range" = some none)
    (z_tuple : PySem.W.nsIn K mainGlobals "tuple" = some none)
    (z_list : PySem.W.nsIn K mainGlobals "list" = some none)
    (z_int : PySem.W.nsIn K mainGlobals "int" = some none)
    (z_abs : PySem.W.nsIn K mainGlobals "abs" = some none)
    (z_max : PySem.W.nsIn K mainGlobals "max" = some none)
    (z_min : PySem.W.nsIn K mainGlobals "min" = some none)
    (z_sorted : PySem.W.nsIn K mainGlobals "sorted" = some none)
    (z_repr : PySem.W.nsIn K mainGlobals "repr" = some none)
    (z_zip : PySem.W.nsIn K mainGlobals "zip" = some none)
    (z_enumerate : PySem.W.nsIn K mainGlobals "enumerate" = some none)
    (z_sum : PySem.W.nsIn K mainGlobals "sum" = some none)
    (z_dict : PySem.W.nsIn K mainGlobals "dict" = some none)
    (z_isinstance : PySem.W.nsIn K mainGlobals "isinstance" = some none)
    (z_all : PySem.W.nsIn K mainGlobals "all" = some none)
    : ∃ fd : FuncData, (∀ (s : Shared) (u : Value), BindsTo s fd ⟨[u], []⟩ [("script", u)]) ∧ ∀ base : Heap, K.In base → base.Ns mainGlobals mg → FnG P w K mg base 5 fa fd ["script"] (spTrue K) := by
  have e := hfa.symm.trans (PySem.W.mg_of X G a21)
  cases e
  have B : Blt mg := ⟨PySem.W.mg_none_of X G z_len, PySem.W.mg_none_of X G z_range, PySem.W.mg_none_of X G z_tuple, PySem.W.mg_none_of X G z_list, PySem.W.mg_none_of X G z_int, PySem.W.mg_none_of X G z_abs, PySem.W.mg_none_of X G z_max, PySem.W.mg_none_of X G z_min, PySem.W.mg_none_of X G z_sorted, PySem.W.mg_none_of X G z_repr, PySem.W.mg_none_of X G z_zip, PySem.W.mg_none_of X G z_enumerate, PySem.W.mg_none_of X G z_sum, PySem.W.mg_none_of X G z_dict, PySem.W.mg_none_of X G z_isinstance, PySem.W.mg_none_of X G z_all⟩
  have F_exchanged : Fct K mg "exchanged" s_exchanged ["row", "i", "j"] := fct_mk X G a0 l0 c0 k0 fun fd F => F.binds fun _ _ _ _ _ _ us hl => match us, hl with | [_, _, _], _ => rfl
  have F_first_word : Fct K mg "first_word" s_first_word ["row"] := fct_mk X G a1 l1 c1 k1 fun fd F => F.binds fun _ _ _ _ _ _ us hl => match us, hl with | [_], _ => rfl
  have F__law_source : Fct K mg "_law_source" s__law_source ["script"] := fct_mk X G a2 l2 c2 k2 fun fd F => F.binds fun _ _ _ _ _ _ us hl => match us, hl with | [_], _ => rfl
  have F__law_pick : Fct K mg "_law_pick" s__law_pick ["source", "many"] := fct_mk X G a3 l3 c3 k3 fun fd F => F.binds fun _ _ _ _ _ _ us hl => match us, hl with | [_, _], _ => rfl
  have F__law_all_rows : Fct K mg "_law_all_rows" s__law_all_rows ["n"] := fct_mk X G a4 l4 c4 k4 fun fd F => F.binds fun _ _ _ _ _ _ us hl => match us, hl with | [_], _ => rfl
  have F__law_length : Fct K mg "_law_length" s__law_length ["row"] := fct_mk X G a5 l5 c5 k5 fun fd F => F.binds fun _ _ _ _ _ _ us hl => match us, hl with | [_], _ => rfl
  have F__law_is_below : Fct K mg "_law_is_below" s__law_is_below ["u", "w"] := fct_mk X G a6 l6 c6 k6 fun fd F => F.binds fun _ _ _ _ _ _ us hl => match us, hl with | [_, _], _ => rfl
  have F__law_exchanged : Fct K mg "_law_exchanged" s__law_exchanged ["row", "i", "j"] := fct_mk X G a7 l7 c7 k7 fun fd F => F.binds fun _ _ _ _ _ _ us hl => match us, hl with | [_, _, _], _ => rfl
  have F__law_behind : Fct K mg "_law_behind" s__law_behind ["one", "other"] := fct_mk X G a8 l8 c8 k8 fun fd F => F.binds fun _ _ _ _ _ _ us hl => match us, hl with | [_, _], _ => rfl
  have F__law_other_way : Fct K mg "_law_other_way" s__law_other_way ["row"] := fct_mk X G a9 l9 c9 k9 fun fd F => F.binds fun _ _ _ _ _ _ us hl => match us, hl with | [_], _ => rfl
  have F_swapped : Fct K mg "swapped" s_swapped ["row", "k"] := fct_mk X G a10 l10 c10 k10 fun fd F => F.binds fun _ _ _ _ _ _ us hl => match us, hl with | [_, _], _ => rfl
  have F__law_of : Fct K mg "_law_of" s__law_of ["source", "some"] := fct_mk X G a11 l11 c11 k11 fun fd F => F.binds fun _ _ _ _ _ _ us hl => match us, hl with | [_, _], _ => rfl
  have F__law_mixed : Fct K mg "_law_mixed" s__law_mixed ["source", "things"] := fct_mk X G a12 l12 c12 k12 fun fd F => F.binds fun _ _ _ _ _ _ us hl => match us, hl with | [_, _], _ => rfl
  have F__law_steps : Fct K mg "_law_steps" s__law_steps ["u"] := fct_mk X G a13 l13 c13 k13 fun fd F => F.binds fun _ _ _ _ _ _ us hl => match us, hl with | [_], _ => rfl
  have F__law_rows_below : Fct K mg "_law_rows_below" s__law_rows_below ["w"] := fct_mk X G a14 l14 c14 k14 fun fd F => F.binds fun _ _ _ _ _ _ us hl => match us, hl with | [_], _ => rfl
  have F_taken_once : Fct K mg "taken_once" s_taken_once ["row", "word"] := fct_mk X G a15 l15 c15 k15 fun fd F => F.binds fun _ _ _ _ _ _ us hl => match us, hl with | [_, _], _ => rfl
  have F_taken_less : Fct K mg "taken_less" s_taken_less ["row", "word"] := fct_mk X G a16 l16 c16 k16 fun fd F => F.binds fun _ _ _ _ _ _ us hl => match us, hl with | [_, _], _ => rfl
  have F__law_row : Fct K mg "_law_row" s__law_row ["source", "n"] := fct_mk X G a17 l17 c17 k17 fun fd F => F.binds fun _ _ _ _ _ _ us hl => match us, hl with | [_, _], _ => rfl
  have F__law_raised : Fct K mg "_law_raised" s__law_raised ["source", "u", "most"] := fct_mk X G a18 l18 c18 k18 fun fd F => F.binds fun _ _ _ _ _ _ us hl => match us, hl with | [_, _, _], _ => rfl
  have F_once : Fct K mg "once" s_once ["one", "other"] := fct_mk X G a19 l19 c19 k19 fun fd F => F.binds fun _ _ _ _ _ _ us hl => match us, hl with | [_, _], _ => rfl
  have F_less : Fct K mg "less" s_less ["one", "other"] := fct_mk X G a20 l20 c20 k20 fun fd F => F.binds fun _ _ _ _ _ _ us hl => match us, hl with | [_, _], _ => rfl
  refine ⟨PySem.W.fnOf "law" "law" (defArgs s_law) (defBody s_law) (defScope s_law) .none kV21 dc21 pm21 an21 cd21 ct21, fun s v => .of_eq rfl, fun base _ _ => ?_⟩
  have C_exchanged : Cal P w K mg base "exchanged" 1 ["row", "i", "j"] w_exchanged := c_exchanged B F_exchanged
  have C_first_word : Cal P w K mg base "first_word" 1 ["row"] w_first_word := c_first_word B F_first_word
  have C__law_source : CalS P w K mg base "_law_source" 1 := c__law_source B F__law_source
  have C__law_pick : Cal P w K mg base "_law_pick" 1 ["source", "many"] w__law_pick := c__law_pick B F__law_pick
  have C__law_all_rows : Cal P w K mg base "_law_all_rows" 1 ["n"] w__law_all_rows := c__law_all_rows B F__law_all_rows
  have C__law_length : Cal P w K mg base "_law_length" 1 ["row"] w__law_length := c__law_length B F__law_length
  have C__law_is_below : Cal P w K mg base "_law_is_below" 1 ["u", "w"] w__law_is_below := c__law_is_below B F__law_is_below
  have C__law_exchanged : Cal P w K mg base "_law_exchanged" 1 ["row", "i", "j"] w__law_exchanged := c__law_exchanged B F__law_exchanged
  have C__law_behind : Cal P w K mg base "_law_behind" 1 ["one", "other"] w__law_behind := c__law_behind B F__law_behind
  have C__law_other_way : Cal P w K mg base "_law_other_way" 1 ["row"] w__law_other_way := c__law_other_way B F__law_other_way
  have C_swapped : Cal P w K mg base "swapped" 2 ["row", "k"] w_swapped := c_swapped B F_swapped C_exchanged
  have C__law_of : Cal P w K mg base "_law_of" 2 ["source", "some"] w__law_of := c__law_of B F__law_of C__law_pick
  have C__law_mixed : Cal P w K mg base "_law_mixed" 2 ["source", "things"] w__law_mixed := c__law_mixed B F__law_mixed C__law_pick
  have C__law_steps : Cal P w K mg base "_law_steps" 2 ["u"] w__law_steps := c__law_steps B F__law_steps C__law_exchanged
  have C__law_rows_below : Cal P w K mg base "_law_rows_below" 2 ["w"] w__law_rows_below := c__law_rows_below B F__law_rows_below C__law_all_rows C__law_is_below
  have C_taken_once : Cal P w K mg base "taken_once" 3 ["row", "word"] w_taken_once := c_taken_once B F_taken_once C_swapped
  have C_taken_less : Cal P w K mg base "taken_less" 3 ["row", "word"] w_taken_less := c_taken_less B F_taken_less C_swapped
  have C__law_row : Cal P w K mg base "_law_row" 3 ["source", "n"] w__law_row := c__law_row B F__law_row C__law_mixed
  have C__law_raised : Cal P w K mg base "_law_raised" 3 ["source", "u", "most"] w__law_raised := c__law_raised B F__law_raised C__law_of C__law_pick C__law_steps
  have C_once : Cal P w K mg base "once" 4 ["one", "other"] w_once := c_once B F_once C_first_word C_taken_once
  have C_less : Cal P w K mg base "less" 4 ["one", "other"] w_less := c_less B F_less C_first_word C_taken_less
  exact c_law hm B C__law_behind C__law_is_below C__law_length C__law_other_way C__law_pick C__law_raised C__law_row C__law_rows_below C_less C_once C__law_source (fun_mk (st := s_law) l21 c21 k21)
end T

set_option Elab.async false
set_option linter.all false
set_option autoImplicit false
set_option maxRecDepth 100000
namespace T
open PySem PySem.Spec L2 PV
def led : List Int → List Int → List Int
  | u, [] => u
  | u, k :: w => led (swp u k.toNat) w
/-! ### with 0 for q -/
/-- a word taken once, with how many are passed over -/
def onc : List Int × Nat → List Int → List Int × Nat
  | p, [] => p
  | p, k :: w => onc (if p.1.getD k.toNat 0 < p.1.getD (k.toNat + 1) 0 then (swp p.1 k.toNat, p.2) else (p.1, p.2 + 1)) w
def sgn (m : Nat) : Int := if m % 2 = 0 then 1 else -1
theorem sgn_succ (m : Nat) : sgn (m + 1) = - sgn m := by
  unfold sgn
  by_cases h : m % 2 = 0
  · rw [if_pos h, if_neg (by omega)]
  · rw [if_neg h, if_pos (by omega)]; rfl
theorem at0_Rk {n k : Nat} {F : Vec} {x : List Int} {s : Int} (hx : IsRow n x) (hk : k + 1 < n) (h : ∀ r, IsRow n r → F r 0 = if r = x then s else 0) :
    ∀ r, IsRow n r → Rk k F r 0 = if upK x k then (if r = swp x k then s else 0) else (if r = x then -s else 0) := by
  intro r hr
  have lr : k + 1 < r.length := by rw [hr.len]; exact hk
  have lx : k + 1 < x.length := by rw [hx.len]; exact hk
  have e : (swp r k = x) ↔ (r = swp x k) := ⟨swp_inj lr, fun z => by rw [z, swp_swp lx]⟩
  have h1 := h _ (hr.swp hk)
  have h2 := h r hr
  have ux := up_swp hx hk
  show (if upK r k then (0 : Int) else F (swp r k) 0 + (0 - F r 0)) = _
  rw [h1, h2]
  by_cases c : upK r k
  · rw [if_pos c]
    by_cases d : upK x k
    · rw [if_pos d, if_neg (fun z => (ux.mp (by rw [← z]; exact c)) d)]
    · rw [if_neg d, if_neg (fun z => d (by rw [← z]; exact c))]
  · rw [if_neg c]
    by_cases d : upK x k
    · have n1 : r ≠ x := fun z => c (by rw [z]; exact d)
      rw [if_pos d, if_neg n1]
      by_cases q : r = swp x k
      · rw [if_pos (e.mpr q), if_pos q]; omega
      · rw [if_neg (fun z => q (e.mp z)), if_neg q]; omega
    · have n1 : r ≠ swp x k := fun z => c (by rw [z]; exact ux.mpr d)
      rw [if_neg d, if_neg (fun z => n1 (e.mp z))]
      by_cases q : r = x
      · rw [if_pos q, if_pos q]; omega
      · rw [if_neg q, if_neg q]; omega
theorem onc_row {n : Nat} : ∀ (w : List Int) (p : List Int × Nat), IsRow n p.1 → Wd n w → IsRow n (onc p w).1
  | [], _, h, _ => h
  | k :: w, p, h, hw => by
    have hk := hw k (by simp)
    refine onc_row w _ ?_ fun j hj => hw j (by simp [hj])
    split
    · exact h.swp (by omega)
    · exact h
theorem at0_Rw {n : Nat} : ∀ (w : List Int) {F : Vec} {p : List Int × Nat} {t : Int}, IsRow n p.1 → Wd n w → (∀ r, IsRow n r → F r 0 = if r = p.1 then t * sgn p.2 else 0) → ∀ r, IsRow n r → Rw w F r 0 = if r = (onc p w).1 then t * sgn (onc p w).2 else 0
  | [], _, _, _, _, _, h => h
  | k :: w, F, p, t, hp, hw, h => by
    have hk := hw k (by simp)
    have hk' : k.toNat + 1 < n := by omega
    have h2 := at0_Rk hp hk' h
    have hw' : Wd n w := fun j hj => hw j (by simp [hj])
    show ∀ r, IsRow n r → Rw w (Rk k.toNat F) r 0 = if r = (onc _ w).1 then t * sgn (onc _ w).2 else 0
    by_cases c : p.1.getD k.toNat 0 < p.1.getD (k.toNat + 1) 0
    · rw [if_pos c]
      refine at0_Rw w (hp.swp hk') hw' fun r hr => ?_
      rw [h2 r hr, if_pos (show upK p.1 k.toNat from c)]
    · rw [if_neg c]
      refine at0_Rw w hp hw' fun r hr => ?_
      rw [h2 r hr, if_neg (show ¬ upK p.1 k.toNat from c), sgn_succ, Int.mul_neg]
theorem sgn_ne (m : Nat) : sgn m ≠ 0 := by unfold sgn; split <;> omega
/-- taken once, words for one row do the same -/
theorem onc_two {n : Nat} {w w' v u : List Int} (h : ForRow n w v) (h' : ForRow n w' v) (hu : IsRow n u) : (onc (u, 0) w).1 = (onc (u, 0) w').1 := by
  have e := two_Te (p := fun i => if i = 0 then 1 else 0) h h' hu
  have s0 : ∀ r, IsRow n r → Te (fun i => if i = 0 then 1 else 0) u r 0 = if r = (u, 0).1 then 1 * sgn 0 else 0 := fun r _ => by
    show (if r = u then (if (0 : Nat) = 0 then (1 : Int) else 0) else 0) = _
    rw [if_pos rfl]
    rfl
  have a := at0_Rw w (p := (u, 0)) (t := 1) hu h.wd s0
  have b := at0_Rw w' (p := (u, 0)) (t := 1) hu h'.wd s0
  have hr := onc_row w (u, 0) hu h.wd
  have a1 := a _ hr
  have b1 := b _ hr
  rw [e _ hr, if_pos rfl] at a1
  rw [a1] at b1
  by_cases c : (onc (u, 0) w).1 = (onc (u, 0) w').1
  · exact c
  · rw [if_neg c] at b1
    have := sgn_ne (onc (u, 0) w).2
    omega
/-! ### one row behind another one -/
def bh (u v : List Int) : List Int := v.map fun k => at0 u k
theorem bh_rng {n : Nat} {u : List Int} (h : IsRow n u) : bh u (rng n) = u := by
  unfold bh rng
  rw [List.map_map]
  refine List.ext_getElem (by rw [List.length_map, List.length_range, h.len]) fun i h1 h2 => ?_
  rw [List.getElem_map, List.getElem_range]
  show u.getD i 0 = u[i]
  rw [List.getD_eq_getElem?_getD, List.getElem?_eq_getElem h2]
  rfl
theorem bh_swp {u v : List Int} {k : Nat} (h : k + 1 < v.length) : bh u (swp v k) = swp (bh u v) k := by
  obtain ⟨A, x, y, B, rfl, rfl⟩ := split2 h
  rw [swp_at]
  unfold bh
  rw [List.map_append, List.map_cons, List.map_cons, List.map_append, List.map_cons, List.map_cons]
  have := swp_at (A.map fun k => at0 u k) (B.map fun k => at0 u k) (at0 u x) (at0 u y)
  rw [List.length_map] at this
  exact this.symm
theorem led_snoc (u : List Int) (k : Int) : ∀ w, led u (w ++ [k]) = swp (led u w) k.toNat := by
  intro w
  induction w generalizing u with
  | nil => rfl
  | cons j w ih => exact ih (swp u j.toNat)
end T

set_option Elab.async false
set_option linter.all false
set_option autoImplicit false
set_option maxRecDepth 100000
namespace T
open PySem PySem.Spec L2 PV
/-! ### inverse rows -/
def ivr (n : Nat) (r : List Int) : List Int := (rng n).map fun v => ((r.idxOf v : Nat) : Int)
section
variable {n k : Nat} {r : List Int} {a : Int}
theorem ivr_len : (ivr n r).length = n := by rw [ivr, List.length_map, rng_len]
theorem idx_get (h : IsRow n r) {i : Nat} (hi : i < n) : r.idxOf (r.getD i 0) = i := by
  have hl : i < r.length := by rw [h.len]; exact hi
  rw [List.getD_eq_getElem?_getD, List.getElem?_eq_getElem hl]
  exact h.nodup.idxOf_getElem i hl
theorem get_idx (h : IsRow n r) {x : Int} (h0 : 0 ≤ x) (h1 : x < (n : Int)) : r.getD (r.idxOf x) 0 = x := by
  have hm := h.mem.mpr ⟨h0, h1⟩
  have hl := List.idxOf_lt_length_iff.mpr hm
  rw [List.getD_eq_getElem?_getD, List.getElem?_eq_getElem hl]
  exact List.getElem_idxOf hl
theorem ivr_get {v : Nat} (hv : v < n) : (ivr n r).getD v 0 = (r.idxOf (v : Int) : Nat) := by
  unfold ivr
  rw [List.getD_eq_getElem?_getD, List.getElem?_map, rng_get hv]
  rfl
theorem get_mem (h : IsRow n r) {i : Nat} (hi : i < n) : 0 ≤ r.getD i 0 ∧ r.getD i 0 < (n : Int) := by
  have hl : i < r.length := by rw [h.len]; exact hi
  refine h.mem.mp ?_
  rw [List.getD_eq_getElem?_getD, List.getElem?_eq_getElem hl]
  exact List.getElem_mem hl
theorem ivr_row (h : IsRow n r) : IsRow n (ivr n r) := by
  refine ⟨nodup_subset_perm ?_ (rng_nodup n) fun x => ?_⟩
  · unfold ivr
    refine List.pairwise_map.mpr ?_
    have := rng_nodup n
    refine List.Pairwise.imp_of_mem ?_ this
    intro u v hu hv ne e
    rw [mem_rng] at hu hv
    have e' : r.idxOf u = r.idxOf v := by exact_mod_cast e
    have a1 := get_idx h hu.1 hu.2
    have a2 := get_idx h hv.1 hv.2
    rw [e'] at a1
    exact ne (a1.symm.trans a2)
  · rw [mem_rng]
    unfold ivr
    rw [List.mem_map]
    constructor
    · rintro ⟨v, hv, rfl⟩
      rw [mem_rng] at hv
      have := List.idxOf_lt_length_iff.mpr (h.mem.mpr hv)
      rw [h.len] at this
      omega
    · rintro ⟨h0, h1⟩
      have hi : x.toNat < n := by omega
      refine ⟨r.getD x.toNat 0, mem_rng.mpr (get_mem h hi), ?_⟩
      rw [idx_get h hi]
      omega
theorem ext_get {s : List Int} (hr : r.length = n) (hs : s.length = n) (h : ∀ i, i < n → r.getD i 0 = s.getD i 0) : r = s := by
  refine List.ext_getElem (by omega) fun i h1 h2 => ?_
  have := h i (by omega)
  rw [List.getD_eq_getElem?_getD, List.getD_eq_getElem?_getD, List.getElem?_eq_getElem h1, List.getElem?_eq_getElem h2] at this
  exact this
theorem ivr_ivr (h : IsRow n r) : ivr n (ivr n r) = r := by
  refine ext_get ivr_len h.len fun i hi => ?_
  rw [ivr_get hi]
  have g := get_mem h hi
  have e : (ivr n r).getD (r.getD i 0).toNat 0 = (i : Int) := by
    rw [ivr_get (by omega), show (((r.getD i 0).toNat : Nat) : Int) = r.getD i 0 by omega, idx_get h hi]
  have := idx_get (ivr_row h) (i := (r.getD i 0).toNat) (by omega)
  rw [e] at this
  rw [this]
  omega
theorem ivr_swp (h : IsRow n r) (hk : k + 1 < n) : ivr n (swp r k) = vsw (ivr n r) k := by
  have hd := h.nodup
  have hl := h.len
  obtain ⟨A, x, y, B, rfl, rfl⟩ := split2 (show k + 1 < r.length by omega)
  rw [swp_at]
  unfold ivr vsw
  rw [List.map_map]
  refine List.map_congr_left fun v _ => ?_
  have ne : x ≠ y := nd_ne hd
  rw [Function.comp_apply, idx_at, idx_at]
  unfold vx
  by_cases hA : v ∈ A
  · rw [if_pos hA, if_pos hA]
    have := List.idxOf_lt_length_iff.mpr hA
    rw [if_neg (by omega), if_neg (by omega)]
  · rw [if_neg hA, if_neg hA]
    by_cases h1 : x = v
    · subst h1
      rw [if_neg (fun z => ne z.symm), if_pos rfl, if_pos rfl, if_pos (by omega)]
      omega
    · rw [if_neg h1, if_neg h1]
      by_cases h2 : y = v
      · rw [if_pos h2, if_pos h2, if_neg (by omega), if_pos (by omega)]
        omega
      · rw [if_neg h2, if_neg h2, if_neg (by omega), if_neg (by omega)]
theorem ivr_vsw (h : IsRow n r) (hk : k + 1 < n) : ivr n (vsw r (k : Int)) = swp (ivr n r) k := by
  have e := ivr_swp (ivr_row h) hk
  rw [ivr_ivr h] at e
  rw [← e, ivr_ivr ((ivr_row h).swp hk)]
theorem ivr_rng : ivr n (rng n) = rng n := by
  refine ext_get ivr_len (rng_len n) fun i hi => ?_
  have g : ∀ i, i < n → (rng n).getD i 0 = (i : Int) := fun i hi => by rw [List.getD_eq_getElem?_getD, rng_get hi]; rfl
  have := idx_get (rng_row n) hi
  rw [g i hi] at this
  rw [ivr_get hi, g i hi, this]
theorem upK_ivr (h : IsRow n r) (hk : k + 1 < n) : upK (ivr n r) k ↔ upV r (k : Int) := by
  unfold upK upV
  rw [ivr_get (by omega), ivr_get hk]
  rw [show (((k + 1 : Nat)) : Int) = (k : Int) + 1 by omega]
  omega
theorem upV_ivr (h : IsRow n r) (hk : k + 1 < n) : upV (ivr n r) (k : Int) ↔ upK r k := by
  have := upK_ivr (ivr_row h) hk
  rw [ivr_ivr h] at this
  exact this.symm
theorem _root_.PV.LWd.rev {w : List Int} (h : LWd n w r) : RWd n w.reverse (ivr n r) := by
  induction h with
  | nil => rw [ivr_rng]; exact .nil
  | @cons w u a hw h0 h1 up ih =>
    obtain ⟨k, rfl⟩ : ∃ k : Nat, a = (k : Int) := ⟨a.toNat, by omega⟩
    rw [List.reverse_cons, ivr_vsw hw.row (by omega)]
    exact .snoc ih (by omega) ((upK_ivr hw.row (by omega)).mpr up)
theorem _root_.PV.RWd.rev {w : List Int} (h : RWd n w r) : LWd n w.reverse (ivr n r) := by
  induction h with
  | nil => rw [ivr_rng]; exact .nil
  | @snoc w u k hw hk up ih =>
    rw [List.reverse_append, List.reverse_singleton, List.singleton_append, ivr_swp hw.row hk]
    exact .cons ih (by omega) (by omega) ((upV_ivr hw.row hk).mpr up)
end
/-! ### lowered -/
/-- a word lowered, from its end -/
def low : List Int → List Int → List Int
  | u, [] => u
  | u, k :: w => low (if u.getD (k.toNat + 1) 0 < u.getD k.toNat 0 then swp u k.toNat else u) w
def neg (n : Nat) (u : List Int) : List Int := u.map fun x => (n : Int) - 1 - x
theorem neg_neg (n : Nat) (u : List Int) : neg n (neg n u) = u := by
  unfold neg
  rw [List.map_map]
  have e : ((fun x : Int => (n : Int) - 1 - x) ∘ fun x => (n : Int) - 1 - x) = id := funext fun x => by
    show (n : Int) - 1 - ((n : Int) - 1 - x) = x
    omega
  rw [e, List.map_id]
theorem neg_row {n : Nat} {u : List Int} (h : IsRow n u) : IsRow n (neg n u) := by
  refine ⟨nodup_subset_perm ?_ (rng_nodup n) fun x => ?_⟩
  · refine List.pairwise_map.mpr (List.Pairwise.imp ?_ h.nodup)
    intro a b ne e
    exact ne (by omega)
  · rw [mem_rng]
    unfold neg
    rw [List.mem_map]
    constructor
    · rintro ⟨v, hv, rfl⟩
      have := h.mem.mp hv
      omega
    · rintro ⟨h0, h1⟩
      exact ⟨(n : Int) - 1 - x, h.mem.mpr (by omega), by omega⟩
theorem neg_get {n : Nat} {u : List Int} {i : Nat} (h : i < u.length) : (neg n u).getD i 0 = (n : Int) - 1 - u.getD i 0 := by
  unfold neg
  rw [List.getD_eq_getElem?_getD, List.getElem?_map, List.getElem?_eq_getElem h, List.getD_eq_getElem?_getD, List.getElem?_eq_getElem h]
  rfl
theorem neg_swp {n k : Nat} {u : List Int} (h : k + 1 < u.length) : neg n (swp u k) = swp (neg n u) k := by
  obtain ⟨A, x, y, B, rfl, rfl⟩ := split2 h
  rw [swp_at]
  unfold neg
  rw [List.map_append, List.map_append, List.map_cons, List.map_cons, List.map_cons, List.map_cons]
  have := swp_at (A := A.map fun x => (n : Int) - 1 - x) (x := (n : Int) - 1 - x) (y := (n : Int) - 1 - y) (B := B.map fun x => (n : Int) - 1 - x)
  rw [List.length_map] at this
  exact this.symm
theorem low_onc {n : Nat} : ∀ (w u : List Int) (m : Nat), IsRow n u → Wd n w → low u w = neg n (onc (neg n u, m) w).1
  | [], u, m, _, _ => (neg_neg n u).symm
  | k :: w, u, m, h, hw => by
    have hk := hw k (by simp)
    have hl := h.len
    have hw' : Wd n w := fun j hj => hw j (by simp [hj])
    show low _ w = neg n (onc (if _ then _ else _) w).1
    rw [neg_get (by omega), neg_get (by omega)]
    by_cases c : u.getD (k.toNat + 1) 0 < u.getD k.toNat 0
    · rw [if_pos c, if_pos (by omega), ← neg_swp (by omega)]
      exact low_onc w _ m (h.swp (by omega)) hw'
    · rw [if_neg c, if_neg (by omega)]
      exact low_onc w u _ h hw'
theorem low_row {n : Nat} {u w : List Int} (h : IsRow n u) (hw : Wd n w) : IsRow n (low u w) := by
  rw [low_onc w u 0 h hw]
  exact neg_row (onc_row w _ (neg_row h) hw)
theorem wd_rev {n : Nat} {w : List Int} (h : Wd n w) : Wd n w.reverse := fun k hk => h k (List.mem_reverse.mp hk)
theorem low_two {n : Nat} {w w' v u : List Int} (h : LWd n w v) (h' : RWd n w' v) (hu : IsRow n u) : low u w.reverse = low u w'.reverse := by
  rw [low_onc _ u 0 hu (wd_rev h.wd), low_onc _ u 0 hu (wd_rev h'.wd), onc_two h.rev.for h'.rev.for (neg_row hu)]
theorem low_snoc (k : Int) : ∀ (w u : List Int), low u (w ++ [k]) = if (low u w).getD (k.toNat + 1) 0 < (low u w).getD k.toNat 0 then swp (low u w) k.toNat else low u w := by
  intro w
  induction w with
  | nil => intro u; rfl
  | cons j w ih => intro u; exact ih _
end T

set_option Elab.async false
set_option linter.all false
set_option autoImplicit false
set_option maxRecDepth 100000
namespace T
open PySem PySem.Spec L2 PV
/-! ### lying below -/
def cg (l : List Int) (j : Int) : Nat := l.countP fun x => decide (j ≤ x)
theorem cg_cons (x : Int) (l : List Int) (j : Int) : cg (x :: l) j = cg l j + if j ≤ x then 1 else 0 := by
  unfold cg
  rw [List.countP_cons]
  simp only [decide_eq_true_eq]
def Bel (u w : List Int) : Prop := ∀ i j, cg (u.take i) j ≤ cg (w.take i) j
theorem cg_vx (a : Int) : ∀ (l : List Int) (j : Int), j ≠ a + 1 → cg (l.map (vx a)) j = cg l j
  | [], _, _ => rfl
  | x :: l, j, h => by
    rw [List.map_cons, cg_cons, cg_cons, cg_vx a l j h]
    congr 1
    unfold vx
    split
    · split <;> split <;> omega
    · split
      · split <;> split <;> omega
      · rfl
theorem cg_vx1 (a : Int) : ∀ l : List Int, cg (l.map (vx a)) (a + 1) = cg l (a + 2) + l.count a
  | [] => rfl
  | x :: l => by
    rw [List.map_cons, cg_cons, cg_cons, cg_vx1 a l, List.count_cons]
    have e : (x == a) = decide (x = a) := rfl
    rw [e]
    unfold vx
    by_cases h1 : x = a
    · simp only [h1, decide_true, if_true]
      rw [if_pos (by omega), if_neg (by omega)]
      omega
    · simp only [h1, decide_false, if_false, Bool.false_eq_true]
      by_cases h2 : x = a + 1
      · rw [if_pos h2, if_neg (by omega), if_neg (by omega)]
        omega
      · rw [if_neg h2]
        by_cases h3 : a + 1 ≤ x
        · rw [if_pos h3, if_pos (by omega)]
          omega
        · rw [if_neg h3, if_neg (by omega)]
          omega
theorem cg_1 (a : Int) : ∀ l : List Int, cg l (a + 1) = cg l (a + 2) + l.count (a + 1)
  | [] => rfl
  | x :: l => by
    rw [cg_cons, cg_cons, cg_1 a l, List.count_cons]
    have e : (x == a + 1) = decide (x = a + 1) := rfl
    rw [e]
    by_cases h1 : x = a + 1
    · simp only [h1, decide_true, if_true]
      rw [if_pos (by omega), if_neg (by omega)]
      omega
    · simp only [h1, decide_false, if_false, Bool.false_eq_true]
      by_cases h3 : a + 1 ≤ x
      · rw [if_pos h3, if_pos (by omega)]
        omega
      · rw [if_neg h3, if_neg (by omega)]
        omega
theorem cg_0 (a : Int) (l : List Int) : cg l a = cg l (a + 2) + l.count (a + 1) + l.count a := by
  have h1 := cg_1 (a - 1) l
  have h2 := cg_1 a l
  rw [show a - 1 + 1 = a by omega, show a - 1 + 2 = a + 1 by omega] at h1
  omega
theorem take_count {l : List Int} (h : l.Nodup) (x : Int) (i : Nat) : (l.take i).count x ≤ 1 :=
  (List.nodup_iff_count.mp (h.sublist (List.take_sublist i l))) x
/-- in a prefix, what stands ahead is there -/
theorem count_take {l : List Int} (h : l.Nodup) {a b : Int} (ha : a ∈ l) (up : l.idxOf a < l.idxOf b) (i : Nat) : (l.take i).count b ≤ (l.take i).count a := by
  by_cases hb : b ∈ l.take i
  · have h1 := take_count h b i
    have : 0 < (l.take i).count a := by
      rw [List.count_pos_iff]
      have hbl : b ∈ l := List.mem_of_mem_take hb
      have e : (l.take i).idxOf b = l.idxOf b := by
        conv => rhs; rw [← List.take_append_drop i l]
        rw [List.idxOf_append, if_pos hb]
      have l1 := List.idxOf_lt_length_iff.mpr hb
      rw [e, List.length_take] at l1
      have l2 := List.idxOf_lt_length_iff.mpr ha
      have : (l.take i)[l.idxOf a]? = some a := by
        rw [List.getElem?_take, if_pos (by omega), List.getElem?_eq_getElem l2]
        rw [List.getElem_idxOf l2]
      exact List.mem_of_getElem? this
    omega
  · rw [List.count_eq_zero.mpr hb]; omega
theorem bel_refl (r : List Int) : Bel r r := fun _ _ => Nat.le_refl _
section
variable {n : Nat} {x y : List Int} {a : Int}
theorem vsw_take (i : Nat) : (vsw x a).take i = (x.take i).map (vx a) := by unfold vsw; rw [List.map_take]
theorem bel_up (hy : IsRow n y) (h0 : 0 ≤ a) (h1 : a + 1 < (n : Int)) (up : upV y a) (h : Bel x y) : Bel x (vsw y a) := by
  intro i j
  rw [vsw_take]
  by_cases hj : j = a + 1
  · subst hj
    rw [cg_vx1]
    have e := cg_1 a (y.take i)
    have q := h i (a + 1)
    have c := count_take hy.nodup (hy.mem.mpr ⟨h0, by omega⟩) up i
    omega
  · rw [cg_vx _ _ _ hj]
    exact h i j
theorem bel_both (hx : IsRow n x) (hy : IsRow n y) (h0 : 0 ≤ a) (h1 : a + 1 < (n : Int)) (up : upV y a) (h : Bel x y) : Bel (vsw x a) (vsw y a) := by
  intro i j
  rw [vsw_take, vsw_take]
  by_cases hj : j = a + 1
  · subst hj
    rw [cg_vx1, cg_vx1]
    have c := count_take hy.nodup (hy.mem.mpr ⟨h0, by omega⟩) up i
    have q2 := h i (a + 2)
    have q0 := h i a
    have e1 := cg_0 a (x.take i)
    have e2 := cg_0 a (y.take i)
    have k1 := take_count hx.nodup a i
    have k2 := take_count hy.nodup a i
    omega
  · rw [cg_vx _ _ _ hj, cg_vx _ _ _ hj]
    exact h i j
end
theorem led_row {n : Nat} : ∀ (w u : List Int), IsRow n u → Wd n w → IsRow n (led u w)
  | [], _, h, _ => h
  | k :: w, u, h, hw => led_row w _ (h.swp (by have := hw k (by simp); omega)) fun j hj => hw j (by simp [hj])
theorem led_vsw {n : Nat} {a : Int} : ∀ (w u : List Int), IsRow n u → Wd n w → led (vsw u a) w = vsw (led u w) a
  | [], _, _, _ => rfl
  | k :: w, u, h, hw => by
    have hk := hw k (by simp)
    show led (swp (vsw u a) k.toNat) w = _
    rw [← vsw_swp _ _ _ (by rw [h.len]; omega)]
    exact led_vsw w _ (h.swp (by omega)) fun j hj => hw j (by simp [hj])
theorem bel_sub {n : Nat} {w r : List Int} (h : LWd n w r) : ∀ v : List Int, v.Sublist w → Bel (led (rng n) v) r := by
  induction h with
  | nil => intro v hv; rw [List.sublist_nil.mp hv]; exact bel_refl _
  | @cons w u a hw h0 h1 up ih =>
    intro v hv
    cases hv with
    | cons _ hv => exact bel_up hw.row h0 h1 up (ih v hv)
    | @cons_cons v' _ _ hv =>
      have wd : Wd n v' := fun j hj => hw.wd j (hv.subset hj)
      have e : swp (rng n) a.toNat = vsw (rng n) a := (upV_same (rng_row n) (k := a.toNat) (by omega) (plain_same h0 h1)).1
      show Bel (led (swp (rng n) a.toNat) v') _
      rw [e, led_vsw v' _ (rng_row n) wd]
      exact bel_both (led_row v' _ (rng_row n) wd) hw.row h0 h1 up (ih v' hv)
/-! ### ascending lists -/
theorem cg_all {l : List Int} {j : Int} (h : ∀ x ∈ l, j ≤ x) : cg l j = l.length := by
  unfold cg
  rw [List.countP_eq_length]
  exact fun x hx => decide_eq_true (h x hx)
theorem asc_le : ∀ (a b : List Int), a.length = b.length → a.Pairwise (fun x y => x ≤ y) → b.Pairwise (fun x y => x ≤ y) → (∀ j, cg a j ≤ cg b j) → ∀ p ∈ a.zip b, p.1 ≤ p.2
  | [], _, _, _, _, _ => by intro p hp; simp at hp
  | _ :: _, [], h, _, _, _ => by simp at h
  | x :: a, y :: b, hl, ha, hb, h => by
    rw [List.pairwise_cons] at ha hb
    have hl' : a.length = b.length := by simpa using hl
    have le : x ≤ y := by
      have q := h x
      rw [cg_cons, cg_cons, if_pos (Int.le_refl x), cg_all ha.1] at q
      have := List.countP_le_length (p := fun z => decide (x ≤ z)) (l := b)
      by_cases c : x ≤ y
      · exact c
      · rw [if_neg c] at q
        unfold cg at q
        omega
    intro p hp
    rw [List.zip_cons_cons, List.mem_cons] at hp
    rcases hp with rfl | hp
    · exact le
    · refine asc_le a b hl' ha.2 hb.2 (fun j => ?_) p hp
      have q := h j
      rw [cg_cons, cg_cons] at q
      by_cases c1 : j ≤ x
      · rw [cg_all fun z hz => Int.le_trans c1 (ha.1 z hz), cg_all fun z hz => Int.le_trans (Int.le_trans c1 le) (hb.1 z hz)]
        omega
      · rw [if_neg c1] at q
        by_cases c2 : j ≤ y
        · rw [cg_all fun z hz => Int.le_trans c2 (hb.1 z hz)]
          have := List.countP_le_length (p := fun z => decide (j ≤ z)) (l := a)
          unfold cg
          omega
        · rw [if_neg c2] at q
          omega
theorem cg_perm {a b : List Int} (h : a.Perm b) (j : Int) : cg a j = cg b j := by
  unfold cg
  exact h.countP_eq _
theorem bel_sorted {u w : List Int} (h : Bel u w) (hl : u.length = w.length) (i : Nat) : ∀ p ∈ (sortZ (u.take i)).zip (sortZ (w.take i)), p.1 ≤ p.2 := by
  have p1 := sortZ_perm (u.take i)
  have p2 := sortZ_perm (w.take i)
  refine asc_le _ _ ?_ (sortZ_sorted _) (sortZ_sorted _) fun j => ?_
  · rw [p1.length_eq, p2.length_eq, List.length_take, List.length_take, hl]
  · rw [cg_perm p1, cg_perm p2]
    exact h i j
/-! ### the part that once takes -/
def opf : List Int × List Int → List Int → List Int × List Int
  | p, [] => p
  | p, k :: w => opf (if p.1.getD k.toNat 0 < p.1.getD (k.toNat + 1) 0 then (swp p.1 k.toNat, swp p.2 k.toNat) else p) w
theorem opf_snoc (k : Int) : ∀ (w : List Int) (p : List Int × List Int), opf p (w ++ [k]) = if (opf p w).1.getD k.toNat 0 < (opf p w).1.getD (k.toNat + 1) 0 then (swp (opf p w).1 k.toNat, swp (opf p w).2 k.toNat) else opf p w := by
  intro w
  induction w with
  | nil => intro p; rfl
  | cons j w ih => intro p; exact ih _
theorem opf_sub : ∀ (w a b : List Int) (m : Nat), (opf (a, b) w).1 = (onc (a, m) w).1 ∧ ∃ v : List Int, v.Sublist w ∧ (opf (a, b) w).1 = led a v ∧ (opf (a, b) w).2 = led b v
  | [], a, b, m => ⟨rfl, [], .refl _, rfl, rfl⟩
  | k :: w, a, b, m => by
    have e1 : opf (a, b) (k :: w) = opf (if a.getD k.toNat 0 < a.getD (k.toNat + 1) 0 then (swp a k.toNat, swp b k.toNat) else (a, b)) w := rfl
    have e2 : onc (a, m) (k :: w) = onc (if a.getD k.toNat 0 < a.getD (k.toNat + 1) 0 then (swp a k.toNat, m) else (a, m + 1)) w := rfl
    rw [e1, e2]
    by_cases c : a.getD k.toNat 0 < a.getD (k.toNat + 1) 0
    · rw [if_pos c, if_pos c]
      obtain ⟨h1, v, h2, h3, h4⟩ := opf_sub w (swp a k.toNat) (swp b k.toNat) m
      exact ⟨h1, k :: v, h2.cons_cons k, h3, h4⟩
    · rw [if_neg c, if_neg c]
      obtain ⟨h1, v, h2, h3, h4⟩ := opf_sub w a b (m + 1)
      exact ⟨h1, v, h2.cons k, h3, h4⟩
theorem bh_led {n : Nat} {u : List Int} : ∀ (v x : List Int), IsRow n x → Wd n v → bh u (led x v) = led (bh u x) v
  | [], _, _, _ => rfl
  | k :: v, x, hx, hv => by
    have hk := hv k (by simp)
    show bh u (led (swp x k.toNat) v) = led (swp (bh u x) k.toNat) v
    rw [← bh_swp (by rw [hx.len]; omega)]
    exact bh_led v _ (hx.swp (by omega)) fun j hj => hv j (by simp [hj])
structure Part (n : Nat) (u w word : List Int) : Prop where
  row : IsRow n (opf (u, rng n) word).2
  bel : Bel (opf (u, rng n) word).2 w
  beh : bh u (opf (u, rng n) word).2 = (onc (u, 0) word).1
theorem part_ok {n : Nat} {u w word : List Int} (hu : IsRow n u) (h : LWd n word w) : Part n u w word := by
  obtain ⟨h1, v, h2, h3, h4⟩ := opf_sub word u (rng n) 0
  have wd : Wd n v := fun j hj => h.wd j (h2.subset hj)
  refine ⟨?_, ?_, ?_⟩
  · rw [h4]; exact led_row v _ (rng_row n) wd
  · rw [h4]; exact bel_sub h v h2
  · rw [h4, ← h1, h3, bh_led v _ (rng_row n) wd, bh_rng hu]
/-! ### the least word -/
def drops (n : Nat) (r : List Int) : List Int := (rng (n - 1)).filter fun x => decide (r.idxOf (x + 1) < r.idxOf x)
inductive LeW (n : Nat) : List Int → List Int → Prop where
  | nil : LeW n [] (rng n)
  | cons {r w m : List Int} {a : Int} : drops n r = a :: m → LeW n w (vsw r a) → LeW n (a :: w) r
theorem drops_rng (n : Nat) : drops n (rng n) = [] := by
  unfold drops
  rw [List.filter_eq_nil_iff]
  intro x hx
  rw [mem_rng] at hx
  have g : ∀ i, i < n → (rng n).idxOf (i : Int) = i := fun i hi => by
    have := idx_get (rng_row n) hi
    rwa [show (rng n).getD i 0 = (i : Int) by rw [List.getD_eq_getElem?_getD, rng_get hi]; rfl] at this
  obtain ⟨k, rfl⟩ : ∃ k : Nat, x = (k : Int) := ⟨x.toNat, by omega⟩
  have e : ((k : Int) + 1) = ((k + 1 : Nat) : Int) := by omega
  rw [e, g k (by omega), g (k + 1) (by omega)]
  simp
theorem LeW.uniq {n : Nat} {w r : List Int} (h : LeW n w r) : ∀ {w' : List Int}, LeW n w' r → w = w' := by
  induction h with
  | nil =>
    intro w' h'
    cases h' with
    | nil => rfl
    | cons hd _ => rw [drops_rng] at hd; cases hd
  | cons hd _ ih =>
    intro w' h'
    cases h' with
    | nil => rw [drops_rng] at hd; cases hd
    | cons hd' hw' =>
      rw [hd] at hd'
      cases hd'
      rw [ih hw']
theorem drops_mem {n : Nat} {r m : List Int} {a : Int} (h : drops n r = a :: m) : 0 ≤ a ∧ a + 1 < (n : Int) ∧ r.idxOf (a + 1) < r.idxOf a := by
  have : a ∈ drops n r := by rw [h]; simp
  obtain ⟨h1, h2⟩ := List.mem_filter.mp this
  rw [mem_rng] at h1
  exact ⟨by omega, by omega, by simpa using h2⟩
theorem LeW.lwd {n : Nat} {w r : List Int} (h : LeW n w r) : IsRow n r → LWd n w r := by
  induction h with
  | nil => intro _; exact .nil
  | cons hd _ ih =>
    intro hr
    obtain ⟨h0, h1, h2⟩ := drops_mem hd
    exact LWd.step hr h0 h1 h2 (ih (hr.vsw h0 h1))
end T

set_option Elab.async false
set_option linter.all false
set_option autoImplicit false
set_option maxRecDepth 100000
namespace T
open PySem PySem.Spec L2 PV
/-! ### products once, words -/
def opk (u : List Int) (k : Nat) : List Int := if u.getD k 0 < u.getD (k + 1) 0 then swp u k else u
theorem opk_up {u : List Int} {k : Nat} (h : upK u k) : opk u k = swp u k := if_pos h
theorem opk_no {u : List Int} {k : Nat} (h : ¬ upK u k) : opk u k = u := if_neg h
/-- once, by a word -/
def oc (u w : List Int) : List Int := (onc (u, 0) w).1
theorem onc_fst : ∀ (w u : List Int) (m m' : Nat), (onc (u, m) w).1 = (onc (u, m') w).1
  | [], _, _, _ => rfl
  | k :: w, u, m, m' => by
    have e1 : ∀ m, onc (u, m) (k :: w) = onc (if u.getD k.toNat 0 < u.getD (k.toNat + 1) 0 then (swp u k.toNat, m) else (u, m + 1)) w := fun _ => rfl
    rw [e1, e1]
    by_cases c : u.getD k.toNat 0 < u.getD (k.toNat + 1) 0
    · rw [if_pos c, if_pos c]; exact onc_fst w _ _ _
    · rw [if_neg c, if_neg c]; exact onc_fst w _ _ _
theorem oc_nil (u : List Int) : oc u [] = u := rfl
theorem oc_cons (u : List Int) (k : Int) (w : List Int) : oc u (k :: w) = oc (opk u k.toNat) w := by
  have e1 : oc u (k :: w) = (onc (if u.getD k.toNat 0 < u.getD (k.toNat + 1) 0 then (swp u k.toNat, 0) else (u, 0 + 1)) w).1 := rfl
  rw [e1]
  unfold opk
  by_cases c : u.getD k.toNat 0 < u.getD (k.toNat + 1) 0
  · rw [if_pos c, if_pos c]; rfl
  · rw [if_neg c, if_neg c]; exact onc_fst w _ _ _
theorem oc_append (w v : List Int) : ∀ u, oc u (w ++ v) = oc (oc u w) v := by
  induction w with
  | nil => intro u; rfl
  | cons k w ih => intro u; rw [List.cons_append, oc_cons, oc_cons, ih]
theorem oc_one (u : List Int) (k : Int) : oc u [k] = opk u k.toNat := by rw [oc_cons, oc_nil]
section
variable {n : Nat}
theorem oc_row {u w : List Int} (h : IsRow n u) (hw : Wd n w) : IsRow n (oc u w) := onc_row w _ h hw
theorem oc_two {w w' v u : List Int} (h : ForRow n w v) (h' : ForRow n w' v) (hu : IsRow n u) : oc u w = oc u w' := onc_two h h' hu
theorem opk_row {u : List Int} {k : Nat} (h : IsRow n u) (hk : k + 1 < n) : IsRow n (opk u k) := by
  unfold opk; split
  · exact h.swp hk
  · exact h
theorem opk_opk {u : List Int} {k : Nat} (h : IsRow n u) (hk : k + 1 < n) : opk (opk u k) k = opk u k := by
  by_cases c : upK u k
  · have e : opk u k = swp u k := opk_up c
    rw [e]
    exact opk_no fun z => (up_swp h hk).mp z c
  · have e : opk u k = u := opk_no c
    rw [e, e]
theorem wd_app {a b : List Int} (ha : Wd n a) (hb : Wd n b) : Wd n (a ++ b) := fun k hk => by
  rcases List.mem_append.mp hk with hk | hk
  · exact ha k hk
  · exact hb k hk
theorem RWd.ex {r : List Int} (h : IsRow n r) : ∃ w, RWd n w r := by
  obtain ⟨w, hw⟩ := LWd.ex (n := n) _ (ivr_row h) (Nat.le_refl _)
  have := hw.rev
  rw [ivr_ivr h] at this
  exact ⟨_, this⟩
/-- a word that goes down at k ends so, for another word -/
theorem down_word {y : List Int} {k : Nat} (h : IsRow n y) (hk : k + 1 < n) (c : ¬ upK y k) : ∃ w, RWd n (w ++ [(k : Int)]) y := by
  obtain ⟨w, hw⟩ := RWd.ex (h.swp hk)
  have := RWd.snoc hw hk ((up_swp h hk).mpr c)
  rw [swp_swp (by rw [h.len]; exact hk)] at this
  exact ⟨w, this⟩
theorem wd_one {k : Nat} (hk : k + 1 < n) : Wd n [(k : Int)] := fun j hj => by
  rw [List.mem_singleton] at hj
  subst hj
  omega
/-- a word and a drop more, or one that is no more than that -/
theorem oc_word1 {y w w' t : List Int} {k : Nat} (hk : k + 1 < n) (hw : RWd n w y) (hw' : RWd n w' (opk y k)) (ht : IsRow n t) : oc t (w ++ [(k : Int)]) = oc t w' ∧ oc t (w ++ [(k : Int)]).reverse = oc t w'.reverse := by
  have hy := hw.row
  by_cases c : upK y k
  · have e : opk y k = swp y k := opk_up c
    rw [e] at hw'
    have h2 := RWd.snoc hw hk c
    exact ⟨oc_two h2.for hw'.for ht, oc_two h2.rev.for hw'.rev.for ht⟩
  · have e : opk y k = y := opk_no c
    rw [e] at hw'
    obtain ⟨z, hz⟩ := down_word hy hk c
    have hzw : Wd n z := fun j hj => hz.wd j (by simp [hj])
    constructor
    · rw [oc_append, oc_two hw.for hz.for ht, oc_append, oc_one, oc_one, Int.toNat_natCast, opk_opk (oc_row ht hzw) hk, oc_two hw'.for hz.for ht, oc_append, oc_one, Int.toNat_natCast]
    · have f : (w ++ [(k : Int)]).reverse = (k : Int) :: w.reverse := by simp
      have f2 : (z ++ [(k : Int)]).reverse = (k : Int) :: z.reverse := by simp
      rw [f, oc_cons, Int.toNat_natCast, oc_two hw.rev.for hz.rev.for (opk_row ht hk), f2, oc_cons, Int.toNat_natCast, opk_opk ht hk, oc_two hw'.rev.for hz.rev.for ht, f2, oc_cons, Int.toNat_natCast]
theorem oc_rng {w r : List Int} (h : ForRow n w r) : oc (rng n) w = r := by
  obtain ⟨v, hv⟩ : ∃ v, RWd n v r := RWd.ex (by
    obtain hr : IsRow n (oc (rng n) w) := oc_row (rng_row n) h.wd
    have a := at0_Rw w (p := (rng n, 0)) (t := 1) (F := Te (fun i => if i = 0 then 1 else 0) (rng n)) (rng_row n) h.wd (fun r _ => by
      show (if r = rng n then (if (0 : Nat) = 0 then (1 : Int) else 0) else 0) = _
      rw [if_pos rfl]; rfl) _ hr
    rw [if_pos (show oc (rng n) w = (onc (rng n, 0) w).1 from rfl), h.rw _ _ hr] at a
    by_cases c : oc (rng n) w = r
    · rw [← c]; exact hr
    · have z : Te (fun i => if i = 0 then (1 : Int) else 0) r (oc (rng n) w) 0 = 0 := if_neg c
      rw [z] at a
      have := sgn_ne (onc (rng n, 0) w).2
      omega)
  have key : ∀ {v r : List Int}, RWd n v r → oc (rng n) v = r := by
    intro v r hv
    induction hv with
    | nil => rfl
    | snoc h hk up ih => rw [oc_append, ih, oc_one, Int.toNat_natCast]; exact opk_up up
  rw [oc_two h hv.for (rng_row n)]
  exact key hv
/-- words that are once the same do once the same, forwards and backwards -/
theorem oc_dem1 : ∀ (w a va : List Int), Wd n a → Wd n w → RWd n va (oc (rng n) a) → (∀ t, IsRow n t → oc t a = oc t va ∧ oc t a.reverse = oc t va.reverse) →
    ∀ {v t : List Int}, RWd n v (oc (rng n) (a ++ w)) → IsRow n t → oc t (a ++ w) = oc t v ∧ oc t (a ++ w).reverse = oc t v.reverse
  | [], a, va, _, _, hva, h, v, t, hv, ht => by
    rw [List.append_nil] at hv ⊢
    obtain ⟨h1, h2⟩ := h t ht
    exact ⟨h1.trans (oc_two hva.for hv.for ht), h2.trans (oc_two hva.rev.for hv.rev.for ht)⟩
  | k :: w, a, va, ha, hw, hva, h, v, t, hv, ht => by
    have hk := hw k (by simp)
    obtain ⟨m, rfl⟩ : ∃ m : Nat, k = (m : Int) := ⟨k.toNat, by omega⟩
    have hm : m + 1 < n := by omega
    have e : a ++ (m : Int) :: w = (a ++ [(m : Int)]) ++ w := by simp
    have ha' : Wd n (a ++ [(m : Int)]) := wd_app ha (wd_one hm)
    have eo : ∀ t, oc t (a ++ [(m : Int)]) = opk (oc t a) m := fun t => by rw [oc_append, oc_one, Int.toNat_natCast]
    obtain ⟨vb, hvb⟩ := RWd.ex (opk_row (oc_row (rng_row n) ha) hm)
    rw [e] at hv ⊢
    refine oc_dem1 w (a ++ [(m : Int)]) vb ha' (fun j hj => hw j (by simp [hj])) (by rw [eo]; exact hvb) (fun s hs => ?_) hv ht
    obtain ⟨p1, p2⟩ := oc_word1 hm hva hvb hs
    refine ⟨?_, ?_⟩
    · rw [← p1, eo, (h s hs).1, oc_append, oc_one, Int.toNat_natCast]
    · rw [← p2, List.reverse_append, List.reverse_append, List.reverse_singleton, List.singleton_append, List.singleton_append, oc_cons, oc_cons, Int.toNat_natCast]
      exact (h _ (opk_row hs hm)).2
theorem oc_dem {w v t : List Int} (hw : Wd n w) (hv : RWd n v (oc (rng n) w)) (ht : IsRow n t) : oc t w = oc t v ∧ oc t w.reverse = oc t v.reverse :=
  oc_dem1 w [] [] (fun j hj => by simp at hj) hw .nil (fun _ _ => ⟨rfl, rfl⟩) hv ht
/-- once goes on in any lots -/
theorem oc_assoc {u w x ww wx wy : List Int} (hu : IsRow n u) (hww : RWd n ww w) (hwx : Wd n wx) (hwy : ForRow n wy (oc w wx)) : oc (oc u ww) wx = oc u wy := by
  have e : oc (rng n) (ww ++ wx) = oc w wx := by rw [oc_append, oc_rng hww.for]
  obtain ⟨v, hv⟩ := RWd.ex (oc_row hww.row hwx)
  rw [← oc_append, (oc_dem (wd_app hww.wd hwx) (by rw [e]; exact hv) hu).1, oc_two hv.for hwy hu]
/-- the other way round -/
theorem oc_rev {w wx wy v : List Int} (hw : Wd n w) (hy : ForRow n wy (oc (rng n) w)) : oc (rng n) w.reverse = ivr n (oc (rng n) w) := by
  obtain ⟨v, hv⟩ := RWd.ex (oc_row (rng_row n) hw)
  rw [(oc_dem hw hv (rng_row n)).2, oc_rng hv.rev.for]
theorem ivr_once {u w wu ww wiu : List Int} (hu : RWd n wu u) (hw : RWd n ww w) (hiu : ForRow n wiu (ivr n u)) : ivr n (oc u ww) = oc (ivr n w) wiu := by
  have e : oc (rng n) (wu ++ ww) = oc u ww := by rw [oc_append, oc_rng hu.for]
  have hwd := wd_app hu.wd hw.wd
  obtain ⟨v, hv⟩ := RWd.ex (oc_row (rng_row n) hwd)
  have r := oc_rev hwd (wx := v) (v := v) hv.for
  rw [e] at r
  rw [← r, List.reverse_append, oc_append, oc_rng hw.rev.for, oc_two hu.rev.for hiu ((ivr_row hw.row))]
end
end T

set_option Elab.async false
set_option linter.all false
set_option autoImplicit false
set_option maxRecDepth 100000
namespace T
open PySem PySem.Spec L2 PV
/-! ### lying below and swaps of places -/
theorem cg_take {y : List Int} {i : Nat} (h : i < y.length) (j : Int) : cg (y.take (i + 1)) j = cg (y.take i) j + if j ≤ y.getD i 0 then 1 else 0 := by
  have e : y.take (i + 1) = y.take i ++ [y.getD i 0] := by
    rw [List.take_add_one, List.getD_eq_getElem?_getD, List.getElem?_eq_getElem h]
    rfl
  rw [e]
  unfold cg
  rw [List.countP_append]
  simp only [List.countP_cons, List.countP_nil, decide_eq_true_eq, Nat.zero_add]
def BelX (k : Nat) (x y : List Int) : Prop := ∀ i j, i ≠ k + 1 → cg (x.take i) j ≤ cg (y.take i) j
theorem cg_swp {y : List Int} {k i : Nat} (h : k + 1 < y.length) (hi : i ≠ k + 1) (j : Int) : cg ((swp y k).take i) j = cg (y.take i) j := by
  obtain ⟨A, a, b, B, rfl, rfl⟩ := split2 h
  rw [swp_at]
  by_cases c : i ≤ A.length
  · rw [List.take_append_of_le_length c, List.take_append_of_le_length c]
  · obtain ⟨m, rfl⟩ : ∃ m, i = A.length + (m + 2) := ⟨i - A.length - 2, by omega⟩
    rw [List.take_length_add_append, List.take_length_add_append]
    refine cg_perm (List.Perm.append_left A ?_) j
    rw [List.take_succ_cons, List.take_succ_cons, List.take_succ_cons, List.take_succ_cons]
    exact List.Perm.swap a b _
section
variable {n k : Nat} {x y u v : List Int}
theorem bel_top (hx : k + 1 < x.length) (hy : k + 1 < y.length) (c : y.getD (k + 1) 0 ≤ y.getD k 0) (h : BelX k x y) : Bel x y := by
  intro i j
  by_cases hi : i = k + 1
  · subst hi
    have a0 := h k j (by omega)
    have a2 := h (k + 1 + 1) j (by omega)
    have e1 := cg_take (y := x) (i := k) (by omega) j
    have e2 := cg_take (y := x) (i := k + 1) hx j
    have f1 := cg_take (y := y) (i := k) (by omega) j
    have f2 := cg_take (y := y) (i := k + 1) hy j
    by_cases c1 : j ≤ y.getD k 0
    · rw [if_pos c1] at f1
      split at e1 <;> omega
    · rw [if_neg c1] at f1
      rw [if_neg (by omega)] at f2
      omega
  · exact h i j hi
theorem bel_bot (hx : k + 1 < x.length) (hy : k + 1 < y.length) (c : x.getD k 0 ≤ x.getD (k + 1) 0) (h : BelX k x y) : Bel x y := by
  intro i j
  by_cases hi : i = k + 1
  · subst hi
    have a0 := h k j (by omega)
    have a2 := h (k + 1 + 1) j (by omega)
    have e1 := cg_take (y := x) (i := k) (by omega) j
    have e2 := cg_take (y := x) (i := k + 1) hx j
    have f1 := cg_take (y := y) (i := k) (by omega) j
    have f2 := cg_take (y := y) (i := k + 1) hy j
    by_cases c1 : j ≤ x.getD k 0
    · rw [if_pos c1] at e1
      rw [if_pos (by omega)] at e2
      split at f2 <;> omega
    · rw [if_neg c1] at e1
      omega
  · exact h i j hi
theorem belX_sl (hx : k + 1 < x.length) : BelX k (swp x k) y ↔ BelX k x y :=
  ⟨fun h i j hi => by have := h i j hi; rwa [cg_swp hx hi] at this, fun h i j hi => by rw [cg_swp hx hi]; exact h i j hi⟩
theorem belX_sr (hy : k + 1 < y.length) : BelX k x (swp y k) ↔ BelX k x y :=
  ⟨fun h i j hi => by have := h i j hi; rwa [cg_swp hy hi] at this, fun h i j hi => by rw [cg_swp hy hi]; exact h i j hi⟩
def dnk (u : List Int) (k : Nat) : List Int := if u.getD (k + 1) 0 < u.getD k 0 then swp u k else u
theorem swp_g0 (h : k + 1 < x.length) : (swp x k).getD k 0 = x.getD (k + 1) 0 ∧ (swp x k).getD (k + 1) 0 = x.getD k 0 := by
  obtain ⟨A, a, b, B, rfl, rfl⟩ := split2 h
  rw [swp_at, get_at, get_at1, get_at, get_at1]
  exact ⟨rfl, rfl⟩
theorem bel_opk (hx : k + 1 < x.length) (hy : k + 1 < y.length) : Bel x (opk y k) ↔ BelX k x y := by
  by_cases c : upK y k
  · rw [opk_up c]
    have g := swp_g0 hy
    unfold upK at c
    exact ⟨fun h => (belX_sr hy).mp fun i j _ => h i j, fun h => bel_top hx (by rw [swp_len]; exact hy) (by rw [g.1, g.2]; omega) ((belX_sr hy).mpr h)⟩
  · rw [opk_no c]
    unfold upK at c
    exact ⟨fun h i j _ => h i j, fun h => bel_top hx hy (by omega) h⟩
theorem bel_dnk (hx : k + 1 < x.length) (hy : k + 1 < y.length) : Bel (dnk x k) y ↔ BelX k x y := by
  unfold dnk
  by_cases c : x.getD (k + 1) 0 < x.getD k 0
  · rw [if_pos c]
    have g := swp_g0 hx
    exact ⟨fun h => (belX_sl hx).mp fun i j _ => h i j, fun h => bel_bot (by rw [swp_len]; exact hx) hy (by rw [g.1, g.2]; omega) ((belX_sl hx).mpr h)⟩
  · rw [if_neg c]
    exact ⟨fun h i j _ => h i j, fun h => bel_bot hx hy (by omega) h⟩
/-- v lies below u once w exactly if v less w lies below u -/
theorem bel_oc : ∀ (w u : List Int), IsRow n u → IsRow n v → Wd n w → (Bel v (oc u w) ↔ Bel (low v w.reverse) u)
  | [], u, _, _, _ => Iff.rfl
  | k :: w, u, hu, hv, hw => by
    have hk := hw k (by simp)
    have hw' : Wd n w := fun j hj => hw j (by simp [hj])
    have hl := (low_row (w := w.reverse) hv (wd_rev hw')).len
    have hul := hu.len
    rw [oc_cons, bel_oc w _ (opk_row hu (by omega)) hv hw', bel_opk (by omega) (by omega), ← bel_dnk (by omega) (by omega), List.reverse_cons, low_snoc]
    rfl
theorem bel_step (hx : k + 1 < x.length) (hy : k + 1 < y.length) (h : Bel x y) : Bel (swp x k) (opk y k) :=
  (bel_opk (by rw [swp_len]; exact hx) hy).mpr ((belX_sl hx).mpr fun i j _ => h i j)
/-- what lies below goes on so -/
theorem bel_led : ∀ (w x y : List Int), IsRow n x → IsRow n y → Wd n w → Bel x y → Bel (led x w) (oc y w)
  | [], _, _, _, _, _, h => h
  | k :: w, x, y, hx, hy, hw, h => by
    have hk := hw k (by simp)
    have hxl := hx.len
    have hyl := hy.len
    rw [oc_cons]
    exact bel_led w _ _ (hx.swp (by omega)) (opk_row hy (by omega)) (fun j hj => hw j (by simp [hj])) (bel_step (by omega) (by omega) h)
/-! ### inverses -/
theorem count_in {r : List Int} (h : IsRow n r) {m : Nat} (hm : m < n) (i : Nat) : (r.take i).count (m : Int) = if r.idxOf (m : Int) < i then 1 else 0 := by
  have hmem : (m : Int) ∈ r := h.mem.mpr ⟨by omega, by omega⟩
  have hl := List.idxOf_lt_length_iff.mpr hmem
  by_cases c : r.idxOf (m : Int) < i
  · rw [if_pos c]
    have h1 := take_count h.nodup (m : Int) i
    have : 0 < (r.take i).count (m : Int) := by
      rw [List.count_pos_iff]
      have : (r.take i)[r.idxOf (m : Int)]? = some (m : Int) := by
        rw [List.getElem?_take, if_pos c, List.getElem?_eq_getElem hl, List.getElem_idxOf hl]
      exact List.mem_of_getElem? this
    omega
  · rw [if_neg c, List.count_eq_zero]
    intro z
    have e : (r.take i).idxOf (m : Int) = r.idxOf (m : Int) := by
      conv => rhs; rw [← List.take_append_drop i r]
      rw [List.idxOf_append, if_pos z]
    have l1 := List.idxOf_lt_length_iff.mpr z
    rw [e, List.length_take] at l1
    omega
theorem cg_ivr {r : List Int} (h : IsRow n r) {i : Nat} (hi : i ≤ n) : ∀ m : Nat, m ≤ n → cg (r.take i) (m : Int) + m = i + cg ((ivr n r).take m) (i : Int) := by
  intro m
  induction m with
  | zero =>
    intro _
    have : cg (r.take i) ((0 : Nat) : Int) = i := by
      show cg (r.take i) (0 : Int) = i
      rw [cg_all fun x hx => (h.mem.mp (List.mem_of_mem_take hx)).1, List.length_take, h.len]
      omega
    rw [this]
    rfl
  | succ m ih =>
    intro hm
    have ih := ih (by omega)
    have e1 := cg_1 ((m : Int) - 1) (r.take i)
    rw [show (m : Int) - 1 + 1 = (m : Int) by omega, show (m : Int) - 1 + 2 = ((m + 1 : Nat) : Int) by omega, count_in h (by omega)] at e1
    rw [cg_take (by rw [ivr_len]; omega), ivr_get (by omega)]
    by_cases c : r.idxOf (m : Int) < i
    · rw [if_pos c] at e1
      rw [if_neg (by omega)]
      omega
    · rw [if_neg c] at e1
      rw [if_pos (by omega)]
      omega
theorem bel_ivr (hx : IsRow n x) (hy : IsRow n y) (h : Bel x y) : Bel (ivr n x) (ivr n y) := by
  have main : ∀ m, m ≤ n → ∀ j, cg ((ivr n x).take m) j ≤ cg ((ivr n y).take m) j := by
    intro m hm j
    have lx : ((ivr n x).take m).length = m := by rw [List.length_take, ivr_len]; omega
    have ly : ((ivr n y).take m).length = m := by rw [List.length_take, ivr_len]; omega
    by_cases c0 : j ≤ 0
    · rw [cg_all (l := (ivr n y).take m) fun z hz => Int.le_trans c0 ((ivr_row hy).mem.mp (List.mem_of_mem_take hz)).1, ly]
      exact Nat.le_trans List.countP_le_length (Nat.le_of_eq lx)
    · by_cases c1 : j ≤ n
      · obtain ⟨i, rfl⟩ : ∃ i : Nat, j = (i : Int) := ⟨j.toNat, by omega⟩
        have a := cg_ivr hx (i := i) (by omega) m hm
        have b := cg_ivr hy (i := i) (by omega) m hm
        have := h i (m : Int)
        omega
      · have : cg ((ivr n x).take m) j = 0 := by
          unfold cg
          rw [List.countP_eq_zero]
          intro z hz
          have := ((ivr_row hx).mem.mp (List.mem_of_mem_take hz)).2
          simp only [decide_eq_true_eq]
          omega
        omega
  intro m j
  by_cases hm : m ≤ n
  · exact main m hm j
  · rw [List.take_of_length_le (by rw [ivr_len]; omega), List.take_of_length_le (by rw [ivr_len]; omega)]
    have := main n (Nat.le_refl n) j
    rwa [List.take_of_length_le (by rw [ivr_len]; exact Nat.le_refl n), List.take_of_length_le (by rw [ivr_len]; exact Nat.le_refl n)] at this
end
end T

set_option Elab.async false
set_option linter.all false
set_option autoImplicit false
set_option maxRecDepth 100000
namespace T
open PySem PySem.Spec L2 PV
/-! ### rows behind rows, by words -/
section
variable {n : Nat}
theorem led_rwd {w v : List Int} (h : RWd n w v) : led (rng n) w = v := by
  induction h with
  | nil => rfl
  | snoc _ _ _ ih => rw [led_snoc, ih, Int.toNat_natCast]
theorem led_lwd {w v : List Int} (h : LWd n w v) : led (rng n) w = v := by
  induction h with
  | nil => rfl
  | @cons w u a hw h0 h1 up ih =>
    have e : swp (rng n) a.toNat = vsw (rng n) a := (upV_same (rng_row n) (k := a.toNat) (by omega) (plain_same h0 h1)).1
    show led (swp (rng n) a.toNat) w = _
    rw [e, led_vsw w _ (rng_row n) hw.wd, ih]
theorem bh_word {u w v : List Int} (hu : IsRow n u) (hw : Wd n w) (e : led (rng n) w = v) : bh u v = led u w := by
  rw [← e, bh_led w _ (rng_row n) hw, bh_rng hu]
theorem ivr_led : ∀ w : List Int, Wd n w → ivr n (led (rng n) w) = led (rng n) w.reverse
  | [], _ => ivr_rng
  | k :: w, hw => by
    have hk := hw k (by simp)
    have hw' : Wd n w := fun j hj => hw j (by simp [hj])
    have e : swp (rng n) k.toNat = vsw (rng n) k := (upV_same (rng_row n) (k := k.toNat) (by omega) (plain_same hk.1 hk.2)).1
    show ivr n (led (swp (rng n) k.toNat) w) = _
    obtain ⟨m, rfl⟩ : ∃ m : Nat, k = (m : Int) := ⟨k.toNat, by omega⟩
    rw [e, led_vsw w _ (rng_row n) hw', ivr_vsw (led_row w _ (rng_row n) hw') (by omega), ivr_led w hw', List.reverse_cons, led_snoc, Int.toNat_natCast]
theorem led_app : ∀ (a b u : List Int), led u (a ++ b) = led (led u a) b
  | [], _, _ => rfl
  | k :: a, b, u => led_app a b _
theorem ivr_bh {u v : List Int} (hu : IsRow n u) (hv : IsRow n v) : ivr n (bh u v) = bh (ivr n v) (ivr n u) := by
  obtain ⟨wu, hwu⟩ := RWd.ex hu
  obtain ⟨wv, hwv⟩ := RWd.ex hv
  rw [bh_word hu hwv.wd (led_rwd hwv), bh_word (ivr_row hv) (wd_rev hwu.wd) (led_lwd hwu.rev)]
  have e : led u wv = led (rng n) (wu ++ wv) := by rw [led_app, led_rwd hwu]
  rw [e, ivr_led _ (wd_app hwu.wd hwv.wd), List.reverse_append, led_app, led_lwd hwv.rev]
theorem bh_row {u v : List Int} (hu : IsRow n u) (hv : IsRow n v) : IsRow n (bh u v) := by
  obtain ⟨wv, hwv⟩ := RWd.ex hv
  rw [bh_word hu hwv.wd (led_rwd hwv)]
  exact led_row wv u hu hwv.wd
theorem bh_get {u v : List Int} {i : Nat} (h : i < v.length) : (bh u v).getD i 0 = u.getD (v.getD i 0).toNat 0 := by
  unfold bh
  rw [List.getD_eq_getElem?_getD, List.getElem?_map, List.getElem?_eq_getElem h, List.getD_eq_getElem?_getD (l := v), List.getElem?_eq_getElem h]
  rfl
theorem bh_back {u o : List Int} (hu : IsRow n u) (ho : IsRow n o) : bh (bh u (ivr n o)) o = u := by
  refine ext_get (by unfold bh; rw [List.length_map, ho.len]) hu.len fun i hi => ?_
  have g := get_mem ho hi
  rw [bh_get (by rw [ho.len]; exact hi), bh_get (by rw [ivr_len]; omega), ivr_get (by omega), show (((o.getD i 0).toNat : Nat) : Int) = o.getD i 0 by omega, idx_get ho hi, Int.toNat_natCast]
theorem bh_inj {u a b : List Int} (hu : IsRow n u) (ha : IsRow n a) (hb : IsRow n b) (e : bh u a = bh u b) : a = b := by
  refine ext_get ha.len hb.len fun i hi => ?_
  have e1 : (bh u a).getD i 0 = (bh u b).getD i 0 := by rw [e]
  have ga := get_mem ha hi
  have gb := get_mem hb hi
  rw [bh_get (by rw [ha.len]; exact hi), bh_get (by rw [hb.len]; exact hi)] at e1
  have i1 := idx_get hu (i := (a.getD i 0).toNat) (by omega)
  have i2 := idx_get hu (i := (b.getD i 0).toNat) (by omega)
  rw [e1, i2] at i1
  omega
/-! ### what lies below, one behind the other -/
theorem top_one {one u w ww : List Int} (h1 : IsRow n one) (hu : IsRow n u) (h : ForRow n ww w) (hw : IsRow n w) (b : Bel one u) : Bel (bh one w) (oc u ww) := by
  obtain ⟨v, hv⟩ := RWd.ex hw
  rw [bh_word h1 hv.wd (led_rwd hv), oc_two h hv.for hu]
  exact bel_led v one u h1 hu hv.wd b
theorem top_two {other u w ww : List Int} (ho : IsRow n other) (hu : IsRow n u) (h : ForRow n ww w) (hw : IsRow n w) (b : Bel other w) : Bel (bh u other) (oc u ww) := by
  obtain ⟨wu, hwu⟩ := RWd.ex hu
  obtain ⟨v, hv⟩ := RWd.ex hw
  obtain ⟨wi, hwi⟩ := RWd.ex (ivr_row hu)
  have t := top_one (ivr_row ho) (ivr_row hw) hwi.for (ivr_row hu) (bel_ivr ho hw b)
  rw [← ivr_bh hu ho, ← ivr_once hwu hv hwi.for] at t
  have t2 := bel_ivr (ivr_row (bh_row hu ho)) (ivr_row (oc_row hu hv.wd)) t
  rw [ivr_ivr (bh_row hu ho), ivr_ivr (oc_row hu hv.wd)] at t2
  rw [oc_two h hv.for hu]
  exact t2
theorem low_below {other u w ww : List Int} (ho : IsRow n other) (hu : IsRow n u) (h : ForRow n ww w) (hw : IsRow n w) (b : Bel other w) : Bel (low u ww.reverse) (bh u (ivr n other)) := by
  have hv := bh_row hu (ivr_row ho)
  have t := top_two ho hv h hw b
  rw [bh_back hu ho] at t
  exact (bel_oc ww _ hv hu h.wd).mp t
theorem low_sub : ∀ (w u : List Int), ∃ v : List Int, v.Sublist w ∧ low u w = led u v
  | [], u => ⟨[], .refl _, rfl⟩
  | k :: w, u => by
    have e : low u (k :: w) = low (if u.getD (k.toNat + 1) 0 < u.getD k.toNat 0 then swp u k.toNat else u) w := rfl
    rw [e]
    by_cases c : u.getD (k.toNat + 1) 0 < u.getD k.toNat 0
    · rw [if_pos c]
      obtain ⟨v, h1, h2⟩ := low_sub w (swp u k.toNat)
      exact ⟨k :: v, h1.cons_cons k, h2⟩
    · rw [if_neg c]
      obtain ⟨v, h1, h2⟩ := low_sub w u
      exact ⟨v, h1.cons k, h2⟩
theorem low_in {u w ww : List Int} (hu : IsRow n u) (h : LWd n ww w) : ∃ other, IsRow n other ∧ Bel other w ∧ low u ww.reverse = bh u (ivr n other) := by
  obtain ⟨v, h1, h2⟩ := low_sub ww.reverse u
  have h3 : v.reverse.Sublist ww := by
    have := h1.reverse
    rwa [List.reverse_reverse] at this
  have wd : Wd n v.reverse := fun j hj => h.wd j (h3.subset hj)
  have wd' : Wd n v := fun j hj => wd j (List.mem_reverse.mpr hj)
  refine ⟨led (rng n) v.reverse, led_row _ _ (rng_row n) wd, bel_sub h _ h3, ?_⟩
  rw [ivr_led _ wd, List.reverse_reverse, h2, bh_word hu wd' rfl]
theorem low_app : ∀ (a b u : List Int), low u (a ++ b) = low (low u a) b
  | [], _, _ => rfl
  | k :: a, b, u => low_app a b _
theorem low_assoc {u x w ww wx wy : List Int} (hu : IsRow n u) (hx : RWd n wx x) (hw : Wd n ww) (hy : RWd n wy (oc x ww)) : low (low u ww.reverse) wx.reverse = low u wy.reverse := by
  have e : oc (rng n) (wx ++ ww) = oc x ww := by rw [oc_append, oc_rng hx.for]
  have wd := wd_app hx.wd hw
  rw [← low_app, ← List.reverse_append, low_onc _ u 0 hu (wd_rev wd), low_onc _ u 0 hu (wd_rev hy.wd)]
  exact congrArg (neg n) (oc_dem wd (by rw [e]; exact hy) (neg_row hu)).2
/-! ### lengths -/
theorem inv_down {u : List Int} {k : Nat} (h : IsRow n u) (hk : k + 1 < n) (c : ¬ upK u k) : inv (swp u k) + 1 = inv u := by
  have := inv_swp (r := swp u k) (k := k) (by rw [swp_len, h.len]; exact hk) ((up_swp h hk).mpr c)
  rw [swp_swp (by rw [h.len]; exact hk)] at this
  omega
theorem led_inv : ∀ (w u : List Int), IsRow n u → Wd n w → inv (led u w) ≤ inv u + w.length ∧ (inv (led u w) = inv u + w.length → led u w = oc u w)
  | [], u, _, _ => ⟨Nat.le_refl _, fun _ => rfl⟩
  | k :: w, u, hu, hw => by
    have hk := hw k (by simp)
    have hl := hu.len
    obtain ⟨i1, i2⟩ := led_inv w (swp u k.toNat) (hu.swp (by omega)) fun j hj => hw j (by simp [hj])
    have e : led u (k :: w) = led (swp u k.toNat) w := rfl
    rw [e, oc_cons, List.length_cons]
    by_cases c : upK u k.toNat
    · have := inv_swp (r := u) (k := k.toNat) (by omega) c
      rw [opk_up c]
      exact ⟨by omega, fun h => i2 (by omega)⟩
    · have := inv_down hu (k := k.toNat) (by omega) c
      exact ⟨by omega, fun h => by omega⟩
theorem oc_sub : ∀ (w u : List Int), IsRow n u → Wd n w → ∃ v : List Int, v.Sublist w ∧ oc u w = led u v ∧ inv (oc u w) = inv u + v.length
  | [], u, _, _ => ⟨[], .refl _, rfl, rfl⟩
  | k :: w, u, hu, hw => by
    have hk := hw k (by simp)
    have hl := hu.len
    have hw' : Wd n w := fun j hj => hw j (by simp [hj])
    rw [oc_cons]
    by_cases c : upK u k.toNat
    · have := inv_swp (r := u) (k := k.toNat) (by omega) c
      rw [opk_up c]
      obtain ⟨v, h1, h2, h3⟩ := oc_sub w (swp u k.toNat) (hu.swp (by omega)) hw'
      exact ⟨k :: v, h1.cons_cons k, h2, by rw [List.length_cons]; omega⟩
    · rw [opk_no c]
      obtain ⟨v, h1, h2, h3⟩ := oc_sub w u hu hw'
      exact ⟨v, h1.cons k, h2, h3⟩
theorem inv_ivr {r : List Int} (h : IsRow n r) : inv (ivr n r) = inv r := by
  obtain ⟨w, hw⟩ := RWd.ex h
  rw [← hw.len, ← hw.rev.len, List.length_reverse]
theorem plain_len {u w ww : List Int} (hu : IsRow n u) (hw : RWd n ww w) : oc u ww = bh u w ↔ inv (bh u w) = inv u + inv w := by
  have hb := bh_word hu hw.wd (led_rwd hw)
  rw [hb, ← hw.len]
  constructor
  · intro e
    obtain ⟨v, h1, h2, h3⟩ := oc_sub ww u hu hw.wd
    have wd : Wd n v := fun j hj => hw.wd j (h1.subset hj)
    have e2 : led (rng n) ww = led (rng n) v := by
      refine bh_inj hu (led_row _ _ (rng_row n) hw.wd) (led_row _ _ (rng_row n) wd) ?_
      rw [bh_word hu hw.wd rfl, bh_word hu wd rfl, ← e, h2]
    have i1 := (led_inv v (rng n) (rng_row n) wd).1
    rw [← e2, led_rwd hw, inv_rng, ← hw.len] at i1
    have := h1.length_le
    rw [e] at h3
    omega
  · intro h
    exact ((led_inv ww u hu hw.wd).2 h).symm
theorem long_oc {u w ww : List Int} (hu : IsRow n u) (hw : RWd n ww w) : inv u ≤ inv (oc u ww) ∧ inv w ≤ inv (oc u ww) := by
  obtain ⟨wu, hwu⟩ := RWd.ex hu
  obtain ⟨wi, hwi⟩ := RWd.ex (ivr_row hu)
  obtain ⟨v, _, _, h3⟩ := oc_sub ww u hu hw.wd
  obtain ⟨v', _, _, h3'⟩ := oc_sub wi (ivr n w) (ivr_row hw.row) hwi.wd
  rw [← ivr_once hwu hw hwi.for, inv_ivr (oc_row hu hw.wd), inv_ivr hw.row] at h3'
  omega
end
end T

set_option Elab.async false
set_option linter.all false
set_option autoImplicit false
set_option maxRecDepth 100000
namespace T
open PySem PySem.Spec L2 PV
local macro_rules | `(tactic| nofun) => `(tactic| simp (disch := (first | omega | (simp only [List.length_set, List.length_map, List.length_append, List.length_take, List.length_drop, rng_len]; omega))) only [wp_ret, wp_bad, wp_ok, wp_if, kR_ap, slP_imm, slP_lst, slP_ft, kE_ap, kI_ap, k1_ap, k2b_ap, k2_ap, k2s_ap, k3c_ap, k3b_ap, k3_ap, kOI_ap, kT_ap, kAnd_ap, kOr_ap, kNot_ap, kVA_ap, kVO_ap, kVN_ap, kIf_ap, kC2_ap, kC1_ap, kTup_ap, kLst_ap, kA_ap, kG2_ap, kG1_ap, kCall_ap, kSeq_nx, kSeq_rt, kSeq_bk, kSeq_ct, kSet_ap, kDrop_ap, kRt_ap, kNxE_ap, kAsg_ap, kFor_ap, kTurn_nx, kTurn_ct, kTurn_bk, kTurn_rt, kBody_ap, kWh_ap, kPar2_ap, kPar1_ap, kP3c_ap, kP3b_ap, kP3a_ap, kRg1_ap, kRg2b_ap, kRg2_ap, kSq_list, kSq_tuple, kEnum_ap, kZip2_ll, kZip1_ap, kLcE_ap, kLc_ap, kLt3_ap, kLt2_ap, kLt1_ap, kRun_nx, kRun_rt, vP_imm, vP_lst, vP_ft, wp_var, pP_imm, pP_lst, pP_ft, wp_peek, moP_ap, wp_move, lkP_imm, lkP_ft, wp_look, gsP_src, gsP_fT, gsP_ft, gsP_imm, wp_gSrc, gnP_imm, gnP_ft, gnP_lst, wp_gNm, gfP_dT, gfP_fT, wp_gFrz, kGt_dT, kGt_imm, kGt_ft, wp_gTmp, wp_C, wp_E, wp_I, wp_1, wp_2, wp_2s, wp_3, wp_oN, wp_oS, wp_T, wp_and, wp_or, wp_not, wp_yes, wp_mIf, wp_vAnd, wp_vOr, wp_vNot, wp_aNil, wp_aCons, wp_tup, wp_lst, wp_A, wp_tupRg, wp_lstRg, wp_gNil, wp_gCons, wp_call, wp_lc, wp_wSeq, wp_wEnum, wp_wZip, wp_wRange1, wp_wRange2, wp_sNx, wp_sBk, wp_sCt, wp_sRetN, wp_seq, wp_set, wp_drop, wp_sRet, wp_sIf, wp_asg, wp_tgName, wp_tgTup, wp_tgAll0, wp_tgAll1, wp_tgN1, wp_tgNs, wp_tgG, wp_tgS0, kTgS_ap, wp_tgS1, wp_sFor, wp_par, wp_par3, wp_run, kIx_ap, isLst_ap, wp_tgIx, kAp_ap, wp_append, kPo_ap, wp_popAt, d_add, d_addb, d_addT, d_addL, d_sub, d_mul, d_mulL, d_fdiv, d_mod, d_pow, d_neg, d_lt, d_le, d_gt, d_ge, d_eq, d_ne, d_eqT, d_neT, d_eqL, d_neL, d_eqT0, d_neT0, d_eqL0, d_neL0, d_eqS, d_neS, d_isN, d_isntN, d_lenT, d_lenL, d_abs, d_int, d_intb, d_tupT, d_tupL, tupP_ft, d_listT, d_listL, d_max, d_min, d_ixT, d_ixL, d_slT, d_slL, cut_to, cut_from, d_revL, d_revT, d_repr, wp_pk, wp_tup0, wp_wipe, wp_wipe0, wp_rest, wp_rest0, ix_zs, ap_zs, ap_z0, po_zs, at0_nat, at0_nat1, toN1, toN2, Int.toNat_natCast, rangeD_rng, rangeD_sub, d_sort, d_sortT, wp_dnewT, kDg2_ap, kDg1_ap, dkO_dT, dkO_fT, isSome_some, wp_dget2, kDp2_ap, kDp1_ap, wp_dput, kDE_lst, kDE_imm, kDE_ft, wp_dictE, List.getElem?_cons_zero, List.getElem?_cons_succ, List.set_cons_zero, List.set_cons_succ, List.length_cons, List.length_nil, List.length_map, List.map_cons, List.map_nil, List.replicate_succ, List.replicate_zero, List.nil_append, List.cons_append, Nat.reduceSub, Nat.reduceAdd, Nat.reduceLeDiff, Nat.reduceLT, Nat.zero_add, Nat.sub_self, decide_eq_true_eq, Bool.not_eq_true', decide_eq_false_iff_not, ite_true, ite_false, if_true, if_false, reduceIte, Bool.true_eq_false, Bool.false_eq_true, and_true, true_and, true_implies, not_true_eq_false, not_false_eq_true, Int.reduceLE, Int.reduceLT, gt_iff_lt, wp_indexT, itP_ft, itP_it, kIt_ap, kIr_ap, wp_disp2, kD1_ap, kD2_ap, kD3_ap, kD4_ap, kD5_ap, kD6_ap, wp_chain, kCn1_ap, kCn2_ap, kCnS_ap, kCn3_ap, kCn4_ap, d_sum, d_max1, d_min1])
/-- a tuple as it may stand in a slot -/
def TupS (s : Sl) (ds : List PyData) : Prop := s = .ft ds ∨ s = .imm (.tuple ds)
section
variable {s : Sl} {ds : List PyData} (h : TupS s ds) (i : Nat) (env : Ev) {PI : PyData × Ev → Prop} {PG : List Sl × Ev → Prop} (r : MG) (K : PyData → Prop)
include h
theorem tv : vP (some (some s)) i env PI = PI (.tuple ds, env) := by rcases h with rfl | rfl <;> rfl
theorem tp : pP (some (some s)) env PI = PI (.tuple ds, env) := by rcases h with rfl | rfl <;> rfl
theorem tgn : gnP (some (some s)) i env r PG = WP (r env) (kG2 s PG) := by rcases h with rfl | rfl <;> rfl
theorem tgs : gsP (some (some s)) env r PG = WP (r env) (kG2 s PG) := by rcases h with rfl | rfl <;> rfl
theorem tgt : kGt r PG (s, env) = WP (r env) (kG2 s PG) := by rcases h with rfl | rfl <;> rfl
theorem tsl : slP s K = K (.tuple ds) := by rcases h with rfl | rfl <;> first | exact slP_ft .. | exact slP_imm ..
end
theorem tupI (ds : List PyData) : TupS (.imm (.tuple ds)) ds := .inr rfl
theorem tupF (ds : List PyData) : TupS (.ft ds) ds := .inl rfl
theorem wp_exch {r : List Int} {k : Nat} {s : Sl} (h : k + 1 < r.length) (hs : TupS s (zs r)) (Q : Sl → Prop) (q : Q (.ft (zs (swp r k)))) : WP (w_exchanged [s, .imm (.int (k : Nat)), .imm (.int ((k : Nat) + 1))]) Q := by
  rw [w_exchanged_def, wp_run]
  unfold m_exchanged
  simp (disch := (first | omega | (simp only [List.length_set, List.length_map, List.length_append, List.length_take, List.length_drop, rng_len]; omega))) only [wp_ret, wp_bad, wp_ok, wp_if, kR_ap, slP_imm, slP_lst, slP_ft, kE_ap, kI_ap, k1_ap, k2b_ap, k2_ap, k2s_ap, k3c_ap, k3b_ap, k3_ap, kOI_ap, kT_ap, kAnd_ap, kOr_ap, kNot_ap, kVA_ap, kVO_ap, kVN_ap, kIf_ap, kC2_ap, kC1_ap, kTup_ap, kLst_ap, kA_ap, kG2_ap, kG1_ap, kCall_ap, kSeq_nx, kSeq_rt, kSeq_bk, kSeq_ct, kSet_ap, kDrop_ap, kRt_ap, kNxE_ap, kAsg_ap, kFor_ap, kTurn_nx, kTurn_ct, kTurn_bk, kTurn_rt, kBody_ap, kWh_ap, kPar2_ap, kPar1_ap, kP3c_ap, kP3b_ap, kP3a_ap, kRg1_ap, kRg2b_ap, kRg2_ap, kSq_list, kSq_tuple, kEnum_ap, kZip2_ll, kZip1_ap, kLcE_ap, kLc_ap, kLt3_ap, kLt2_ap, kLt1_ap, kRun_nx, kRun_rt, vP_imm, vP_lst, vP_ft, wp_var, pP_imm, pP_lst, pP_ft, wp_peek, moP_ap, wp_move, lkP_imm, lkP_ft, wp_look, gsP_src, gsP_fT, gsP_ft, gsP_imm, wp_gSrc, gnP_imm, gnP_ft, gnP_lst, wp_gNm, gfP_dT, gfP_fT, wp_gFrz, kGt_dT, kGt_imm, kGt_ft, wp_gTmp, wp_C, wp_E, wp_I, wp_1, wp_2, wp_2s, wp_3, wp_oN, wp_oS, wp_T, wp_and, wp_or, wp_not, wp_yes, wp_mIf, wp_vAnd, wp_vOr, wp_vNot, wp_aNil, wp_aCons, wp_tup, wp_lst, wp_A, wp_tupRg, wp_lstRg, wp_gNil, wp_gCons, wp_call, wp_lc, wp_wSeq, wp_wEnum, wp_wZip, wp_wRange1, wp_wRange2, wp_sNx, wp_sBk, wp_sCt, wp_sRetN, wp_seq, wp_set, wp_drop, wp_sRet, wp_sIf, wp_asg, wp_tgName, wp_tgTup, wp_tgAll0, wp_tgAll1, wp_tgN1, wp_tgNs, wp_tgG, wp_tgS0, kTgS_ap, wp_tgS1, wp_sFor, wp_par, wp_par3, wp_run, kIx_ap, isLst_ap, wp_tgIx, kAp_ap, wp_append, kPo_ap, wp_popAt, d_add, d_addb, d_addT, d_addL, d_sub, d_mul, d_mulL, d_fdiv, d_mod, d_pow, d_neg, d_lt, d_le, d_gt, d_ge, d_eq, d_ne, d_eqT, d_neT, d_eqL, d_neL, d_eqT0, d_neT0, d_eqL0, d_neL0, d_eqS, d_neS, d_isN, d_isntN, d_lenT, d_lenL, d_abs, d_int, d_intb, d_tupT, d_tupL, tupP_ft, d_listT, d_listL, d_max, d_min, d_ixT, d_ixL, d_slT, d_slL, cut_to, cut_from, d_revL, d_revT, d_repr, wp_pk, wp_tup0, wp_wipe, wp_wipe0, wp_rest, wp_rest0, ix_zs, ap_zs, ap_z0, po_zs, at0_nat, at0_nat1, toN1, toN2, Int.toNat_natCast, rangeD_rng, rangeD_sub, d_sort, d_sortT, wp_dnewT, kDg2_ap, kDg1_ap, dkO_dT, dkO_fT, isSome_some, wp_dget2, kDp2_ap, kDp1_ap, wp_dput, kDE_lst, kDE_imm, kDE_ft, wp_dictE, List.getElem?_cons_zero, List.getElem?_cons_succ, List.set_cons_zero, List.set_cons_succ, List.length_cons, List.length_nil, List.length_map, List.map_cons, List.map_nil, List.replicate_succ, List.replicate_zero, List.nil_append, List.cons_append, Nat.reduceSub, Nat.reduceAdd, Nat.reduceLeDiff, Nat.reduceLT, Nat.zero_add, Nat.sub_self, decide_eq_true_eq, Bool.not_eq_true', decide_eq_false_iff_not, ite_true, ite_false, if_true, if_false, reduceIte, Bool.true_eq_false, Bool.false_eq_true, and_true, true_and, true_implies, not_true_eq_false, not_false_eq_true, Int.reduceLE, Int.reduceLT, gt_iff_lt, wp_indexT, itP_ft, itP_it, kIt_ap, kIr_ap, wp_disp2, kD1_ap, kD2_ap, kD3_ap, kD4_ap, kD5_ap, kD6_ap, wp_chain, kCn1_ap, kCn2_ap, kCnS_ap, kCn3_ap, kCn4_ap, d_sum, d_max1, d_min1, tp hs]
  exact q
theorem wp_swapped {r : List Int} {k : Nat} {s : Sl} (h : k + 1 < r.length) (hs : TupS s (zs r)) (Q : Sl → Prop) (q : Q (.ft (zs (swp r k)))) : WP (w_swapped [s, .imm (.int (k : Nat))]) Q := by
  rw [w_swapped_def, wp_run]
  unfold m_swapped
  simp (disch := (first | omega | (simp only [List.length_set, List.length_map, List.length_append, List.length_take, List.length_drop, rng_len]; omega))) only [wp_ret, wp_bad, wp_ok, wp_if, kR_ap, slP_imm, slP_lst, slP_ft, kE_ap, kI_ap, k1_ap, k2b_ap, k2_ap, k2s_ap, k3c_ap, k3b_ap, k3_ap, kOI_ap, kT_ap, kAnd_ap, kOr_ap, kNot_ap, kVA_ap, kVO_ap, kVN_ap, kIf_ap, kC2_ap, kC1_ap, kTup_ap, kLst_ap, kA_ap, kG2_ap, kG1_ap, kCall_ap, kSeq_nx, kSeq_rt, kSeq_bk, kSeq_ct, kSet_ap, kDrop_ap, kRt_ap, kNxE_ap, kAsg_ap, kFor_ap, kTurn_nx, kTurn_ct, kTurn_bk, kTurn_rt, kBody_ap, kWh_ap, kPar2_ap, kPar1_ap, kP3c_ap, kP3b_ap, kP3a_ap, kRg1_ap, kRg2b_ap, kRg2_ap, kSq_list, kSq_tuple, kEnum_ap, kZip2_ll, kZip1_ap, kLcE_ap, kLc_ap, kLt3_ap, kLt2_ap, kLt1_ap, kRun_nx, kRun_rt, vP_imm, vP_lst, vP_ft, wp_var, pP_imm, pP_lst, pP_ft, wp_peek, moP_ap, wp_move, lkP_imm, lkP_ft, wp_look, gsP_src, gsP_fT, gsP_ft, gsP_imm, wp_gSrc, gnP_imm, gnP_ft, gnP_lst, wp_gNm, gfP_dT, gfP_fT, wp_gFrz, kGt_dT, kGt_imm, kGt_ft, wp_gTmp, wp_C, wp_E, wp_I, wp_1, wp_2, wp_2s, wp_3, wp_oN, wp_oS, wp_T, wp_and, wp_or, wp_not, wp_yes, wp_mIf, wp_vAnd, wp_vOr, wp_vNot, wp_aNil, wp_aCons, wp_tup, wp_lst, wp_A, wp_tupRg, wp_lstRg, wp_gNil, wp_gCons, wp_call, wp_lc, wp_wSeq, wp_wEnum, wp_wZip, wp_wRange1, wp_wRange2, wp_sNx, wp_sBk, wp_sCt, wp_sRetN, wp_seq, wp_set, wp_drop, wp_sRet, wp_sIf, wp_asg, wp_tgName, wp_tgTup, wp_tgAll0, wp_tgAll1, wp_tgN1, wp_tgNs, wp_tgG, wp_tgS0, kTgS_ap, wp_tgS1, wp_sFor, wp_par, wp_par3, wp_run, kIx_ap, isLst_ap, wp_tgIx, kAp_ap, wp_append, kPo_ap, wp_popAt, d_add, d_addb, d_addT, d_addL, d_sub, d_mul, d_mulL, d_fdiv, d_mod, d_pow, d_neg, d_lt, d_le, d_gt, d_ge, d_eq, d_ne, d_eqT, d_neT, d_eqL, d_neL, d_eqT0, d_neT0, d_eqL0, d_neL0, d_eqS, d_neS, d_isN, d_isntN, d_lenT, d_lenL, d_abs, d_int, d_intb, d_tupT, d_tupL, tupP_ft, d_listT, d_listL, d_max, d_min, d_ixT, d_ixL, d_slT, d_slL, cut_to, cut_from, d_revL, d_revT, d_repr, wp_pk, wp_tup0, wp_wipe, wp_wipe0, wp_rest, wp_rest0, ix_zs, ap_zs, ap_z0, po_zs, at0_nat, at0_nat1, toN1, toN2, Int.toNat_natCast, rangeD_rng, rangeD_sub, d_sort, d_sortT, wp_dnewT, kDg2_ap, kDg1_ap, dkO_dT, dkO_fT, isSome_some, wp_dget2, kDp2_ap, kDp1_ap, wp_dput, kDE_lst, kDE_imm, kDE_ft, wp_dictE, List.getElem?_cons_zero, List.getElem?_cons_succ, List.set_cons_zero, List.set_cons_succ, List.length_cons, List.length_nil, List.length_map, List.map_cons, List.map_nil, List.replicate_succ, List.replicate_zero, List.nil_append, List.cons_append, Nat.reduceSub, Nat.reduceAdd, Nat.reduceLeDiff, Nat.reduceLT, Nat.zero_add, Nat.sub_self, decide_eq_true_eq, Bool.not_eq_true', decide_eq_false_iff_not, ite_true, ite_false, if_true, if_false, reduceIte, Bool.true_eq_false, Bool.false_eq_true, and_true, true_and, true_implies, not_true_eq_false, not_false_eq_true, Int.reduceLE, Int.reduceLT, gt_iff_lt, wp_indexT, itP_ft, itP_it, kIt_ap, kIr_ap, wp_disp2, kD1_ap, kD2_ap, kD3_ap, kD4_ap, kD5_ap, kD6_ap, wp_chain, kCn1_ap, kCn2_ap, kCnS_ap, kCn3_ap, kCn4_ap, d_sum, d_max1, d_min1, tgn hs]
  refine wp_exch h hs _ ?_
  nofun
  exact q
theorem lsw_at {r : List Int} {k : Nat} (h : k + 1 < r.length) : r.take k ++ [r.getD (k + 1) 0, r.getD k 0] ++ r.drop (k + 2) = swp r k := by
  obtain ⟨A, x, y, B, rfl, rfl⟩ := split2 h
  rw [swp_at, get_at, get_at1, List.take_left']
  · have : (A ++ x :: y :: B).drop (A.length + 2) = B := by
      rw [show A ++ x :: y :: B = (A ++ [x, y]) ++ B by simp, show A.length + 2 = (A ++ [x, y]).length by simp, List.drop_left]
    rw [this]
    simp
  · rfl
/-! ### first_word -/
theorem wp_first_word {n : Nat} {r : List Int} (h : IsRow n r) (h1 : 1 ≤ n) (h12 : n ≤ 12) (Q : Sl → Prop) {s : Sl} (hs : TupS s (zs r)) (q : ∀ w, LeW n w r → Q (.ft (zs w))) : WP (w_first_word [s]) Q := by
  rw [w_first_word_def, wp_run]
  unfold m_first_word sWhile
  simp (disch := (first | omega | (simp only [List.length_set, List.length_map, List.length_append, List.length_take, List.length_drop, rng_len]; omega))) only [wp_ret, wp_bad, wp_ok, wp_if, kR_ap, slP_imm, slP_lst, slP_ft, kE_ap, kI_ap, k1_ap, k2b_ap, k2_ap, k2s_ap, k3c_ap, k3b_ap, k3_ap, kOI_ap, kT_ap, kAnd_ap, kOr_ap, kNot_ap, kVA_ap, kVO_ap, kVN_ap, kIf_ap, kC2_ap, kC1_ap, kTup_ap, kLst_ap, kA_ap, kG2_ap, kG1_ap, kCall_ap, kSeq_nx, kSeq_rt, kSeq_bk, kSeq_ct, kSet_ap, kDrop_ap, kRt_ap, kNxE_ap, kAsg_ap, kFor_ap, kTurn_nx, kTurn_ct, kTurn_bk, kTurn_rt, kBody_ap, kWh_ap, kPar2_ap, kPar1_ap, kP3c_ap, kP3b_ap, kP3a_ap, kRg1_ap, kRg2b_ap, kRg2_ap, kSq_list, kSq_tuple, kEnum_ap, kZip2_ll, kZip1_ap, kLcE_ap, kLc_ap, kLt3_ap, kLt2_ap, kLt1_ap, kRun_nx, kRun_rt, vP_imm, vP_lst, vP_ft, wp_var, pP_imm, pP_lst, pP_ft, wp_peek, moP_ap, wp_move, lkP_imm, lkP_ft, wp_look, gsP_src, gsP_fT, gsP_ft, gsP_imm, wp_gSrc, gnP_imm, gnP_ft, gnP_lst, wp_gNm, gfP_dT, gfP_fT, wp_gFrz, kGt_dT, kGt_imm, kGt_ft, wp_gTmp, wp_C, wp_E, wp_I, wp_1, wp_2, wp_2s, wp_3, wp_oN, wp_oS, wp_T, wp_and, wp_or, wp_not, wp_yes, wp_mIf, wp_vAnd, wp_vOr, wp_vNot, wp_aNil, wp_aCons, wp_tup, wp_lst, wp_A, wp_tupRg, wp_lstRg, wp_gNil, wp_gCons, wp_call, wp_lc, wp_wSeq, wp_wEnum, wp_wZip, wp_wRange1, wp_wRange2, wp_sNx, wp_sBk, wp_sCt, wp_sRetN, wp_seq, wp_set, wp_drop, wp_sRet, wp_sIf, wp_asg, wp_tgName, wp_tgTup, wp_tgAll0, wp_tgAll1, wp_tgN1, wp_tgNs, wp_tgG, wp_tgS0, kTgS_ap, wp_tgS1, wp_sFor, wp_par, wp_par3, wp_run, kIx_ap, isLst_ap, wp_tgIx, kAp_ap, wp_append, kPo_ap, wp_popAt, d_add, d_addb, d_addT, d_addL, d_sub, d_mul, d_mulL, d_fdiv, d_mod, d_pow, d_neg, d_lt, d_le, d_gt, d_ge, d_eq, d_ne, d_eqT, d_neT, d_eqL, d_neL, d_eqT0, d_neT0, d_eqL0, d_neL0, d_eqS, d_neS, d_isN, d_isntN, d_lenT, d_lenL, d_abs, d_int, d_intb, d_tupT, d_tupL, tupP_ft, d_listT, d_listL, d_max, d_min, d_ixT, d_ixL, d_slT, d_slL, cut_to, cut_from, d_revL, d_revT, d_repr, wp_pk, wp_tup0, wp_wipe, wp_wipe0, wp_rest, wp_rest0, ix_zs, ap_zs, ap_z0, po_zs, at0_nat, at0_nat1, toN1, toN2, Int.toNat_natCast, rangeD_rng, rangeD_sub, d_sort, d_sortT, wp_dnewT, kDg2_ap, kDg1_ap, dkO_dT, dkO_fT, isSome_some, wp_dget2, kDp2_ap, kDp1_ap, wp_dput, kDE_lst, kDE_imm, kDE_ft, wp_dictE, List.getElem?_cons_zero, List.getElem?_cons_succ, List.set_cons_zero, List.set_cons_succ, List.length_cons, List.length_nil, List.length_map, List.map_cons, List.map_nil, List.replicate_succ, List.replicate_zero, List.nil_append, List.cons_append, Nat.reduceSub, Nat.reduceAdd, Nat.reduceLeDiff, Nat.reduceLT, Nat.zero_add, Nat.sub_self, decide_eq_true_eq, Bool.not_eq_true', decide_eq_false_iff_not, ite_true, ite_false, if_true, if_false, reduceIte, Bool.true_eq_false, Bool.false_eq_true, and_true, true_and, true_implies, not_true_eq_false, not_false_eq_true, Int.reduceLE, Int.reduceLT, gt_iff_lt, wp_indexT, itP_ft, itP_it, kIt_ap, kIr_ap, wp_disp2, kD1_ap, kD2_ap, kD3_ap, kD4_ap, kD5_ap, kD6_ap, wp_chain, kCn1_ap, kCn2_ap, kCnS_ap, kCn3_ap, kCn4_ap, d_sum, d_max1, d_min1, tp hs]
  have hmu : mu n r ≤ 1728 := by
    have := mu_le h
    have : n * (n * n) ≤ 12 * (12 * 12) := Nat.mul_le_mul h12 (Nat.mul_le_mul h12 h12)
    omega
  refine while_inv (σ := List Int) (fun r' env => ∃ e3 e4 e5 w, env = [some s, some (.lst (zs r')), some (.lst (zs w)), e3, e4, e5] ∧ IsRow n r' ∧ w.length + mu n r' ≤ mu n r ∧ ∀ v, LeW n v r' → LeW n (w ++ v) r) (fun r' => mu n r') ?_ 100000 r _ ⟨none, none, none, [], rfl, h, by simp, fun v hv => hv⟩ ?_
  · rintro r' env ⟨e3, e4, e5, w, rfl, h', hm, hw⟩
    have hlen := h'.len
    nofun
    refine ⟨by omega, ?_⟩
    by_cases hz : r' = sortZ r'
    · rw [if_neg (fun z => z hz)]
      rw [sortZ_row h'] at hz
      have hv := hw [] (by rw [hz]; exact .nil)
      rw [List.append_nil] at hv
      exact q w hv
    · rw [if_pos hz]
      refine ⟨by omega, by rw [rng_len]; omega, ?_⟩
      have mem : ∀ x ∈ rng (r'.length - 1), x ∈ r' ∧ x + 1 ∈ r' := fun x hx => by
        rw [mem_rng] at hx
        exact ⟨h'.mem.mpr (by omega), h'.mem.mpr (by omega)⟩
      refine lc_pure PyData.int (fun x => decide (r'.idxOf (x + 1) < r'.idxOf x)) PyData.int _ _ _ (fun x hx => ?_) ?_
      · obtain ⟨m1, m2⟩ := mem x hx
        simp only [wp_tgN1]
        nofun
        rw [d_idxL m1]
        nofun
        rw [d_idxL m2]
        nofun
        by_cases c : r'.idxOf (x + 1) < r'.idxOf x
        · rw [if_pos (by omega), if_pos c]
        · rw [if_neg (by omega), if_neg c]
      · nofun
        have hne : (rng (r'.length - 1)).filter (fun x => decide (r'.idxOf (x + 1) < r'.idxOf x)) ≠ [] := fun z => hz (by
          rw [sortZ_row h']
          refine plain_of_upV h' fun a ha hd => ?_
          have : (a : Int) ∈ (rng (r'.length - 1)).filter (fun x => decide (r'.idxOf (x + 1) < r'.idxOf x)) := List.mem_filter.mpr ⟨mem_rng.mpr (by omega), by simpa using hd⟩
          rw [z] at this
          simp at this)
        obtain ⟨a, rest, e⟩ := List.exists_cons_of_ne_nil hne
        have ha : a ∈ (rng (r'.length - 1)).filter (fun x => decide (r'.idxOf (x + 1) < r'.idxOf x)) := by rw [e]; simp
        obtain ⟨ha1, ha2⟩ := List.mem_filter.mp ha
        obtain ⟨m1, m2⟩ := mem a ha1
        have hd : r'.idxOf (a + 1) < r'.idxOf a := by simpa using ha2
        rw [mem_rng] at ha1
        rw [e, List.map_cons, d_ixLd (d := .int a) (by omega) rfl]
        nofun
        rw [d_idxL m1]
        nofun
        rw [d_idxL m2]
        have l1 := List.idxOf_lt_length_iff.mpr m1
        have l2 := List.idxOf_lt_length_iff.mpr m2
        nofun
        rw [set_vsw h'.nodup m1 m2]
        have hm2 := mu_vsw h' (a := a) (by omega) (by omega) hd
        refine ⟨by omega, vsw r' a, ⟨_, _, _, w ++ [a], rfl, h'.vsw (by omega) (by omega), by rw [List.length_append]; simp only [List.length_cons, List.length_nil]; omega, fun v hv => ?_⟩, hm2⟩
        rw [List.append_assoc]
        exact hw _ (LeW.cons (m := rest) (by unfold drops; rw [← hlen]; exact e) hv)
  · omega
/-! ### draws -/
theorem wp_mixed {q : List Int} (hq : q.length ≤ 1000) (Q : Sl → Prop) (g : ∀ r : List Int, r.Perm q → Q (.lst (zs r))) : WP (w__law_mixed [.src, .imm (zL q)]) Q := by
  rw [w__law_mixed_def, wp_run]
  unfold m__law_mixed
  nofun
  refine ⟨by omega, by rw [rng_len]; omega, ?_⟩
  refine lc_inv PyData.int (fun done out env => ∃ o rest : List Int, out = zs o ∧ env = [some .src, some (.imm (zL q)), some (.lst (zs rest)), none] ∧ (o ++ rest).Perm q ∧ o.length = done.length) (rng q.length) [] [] _ _ ⟨[], q, rfl, rfl, .refl _, rfl⟩ ?_ ?_
  · rintro done x more out env e ⟨o, rest, rfl, rfl, hp, hl⟩
    have h1 := hp.length_eq
    have h2 := congrArg List.length e
    simp only [List.nil_append, List.length_append, List.length_cons, rng_len] at h1 h2
    nofun
    refine ⟨by omega, fun i h3 h4 => ?_⟩
    have h5 : i < (rest.length : Int) := by split at h4 <;> omega
    nofun
    have hi : i.toNat < rest.length := by omega
    refine ⟨o ++ [at0 rest i], rest.eraseIdx i.toNat, by unfold zs; rw [List.map_append]; rfl, rfl, ?_, by rw [List.length_append, List.length_append, hl]; rfl⟩
    refine .trans ?_ hp
    have e1 : at0 rest i = rest[i.toNat] := by
      unfold at0
      rw [List.getD_eq_getElem?_getD, List.getElem?_eq_getElem hi]
      rfl
    rw [e1, List.append_assoc]
    refine .append_left o ?_
    rw [List.eraseIdx_eq_take_drop_succ]
    have e2 : rest.take i.toNat ++ rest[i.toNat] :: rest.drop (i.toNat + 1) = rest := by rw [← List.drop_eq_getElem_cons hi, List.take_append_drop]
    have e3 := (List.perm_middle (a := rest[i.toNat]) (l₁ := rest.take i.toNat) (l₂ := rest.drop (i.toNat + 1))).symm
    rw [e2] at e3
    exact e3
  · rintro o' env ⟨o, rest, e1, rfl, hp, hl⟩
    have h1 := hp.length_eq
    simp only [List.nil_append, List.length_append, rng_len] at h1 hl e1
    have : rest = [] := List.eq_nil_of_length_eq_zero (by omega)
    subst this
    rw [List.append_nil] at hp
    rw [e1]
    nofun
    exact g o hp
theorem wp_row {n : Nat} (h1 : 1 ≤ n) (h2 : n ≤ 1000) (Q : Sl → Prop) (g : ∀ r : List Int, IsRow n r → Q (.ft (zs r))) : WP (w__law_row [.src, .imm (.int (n : Nat))]) Q := by
  rw [w__law_row_def, wp_run]
  unfold m__law_row
  nofun
  refine ⟨by omega, by rw [rng_len]; omega, ?_⟩
  refine wp_mixed (by rw [rng_len]; exact h2) _ fun r hr => ?_
  nofun
  exact g r ⟨hr⟩
theorem wp_of {ds : List PyData} (h0 : ds ≠ []) (hl : ds.length ≤ 1000) (Q : Sl → Prop) (q : ∀ d ∈ ds, Q (.imm d)) : WP (w__law_of [.src, .imm (.list ds)]) Q := by
  rw [w__law_of_def, wp_run]
  unfold m__law_of
  have hp : 0 < ds.length := List.length_pos_iff.mpr h0
  nofun
  refine ⟨by omega, fun i h3 h4 => ?_⟩
  have h5 : i.toNat < ds.length := by split at h4 <;> omega
  rw [d_ixLd h3 (List.getElem?_eq_getElem h5)]
  nofun
  exact q _ (List.getElem_mem h5)
end T

set_option Elab.async false
set_option linter.all false
set_option autoImplicit false
set_option maxRecDepth 100000
namespace T
open PySem PySem.Spec L2 PV
local macro_rules | `(tactic| nofun) => `(tactic| simp (disch := (first | omega | (simp only [List.length_set, List.length_map, List.length_append, List.length_take, List.length_drop, rng_len]; omega))) only [wp_ret, wp_bad, wp_ok, wp_if, kR_ap, slP_imm, slP_lst, slP_ft, kE_ap, kI_ap, k1_ap, k2b_ap, k2_ap, k2s_ap, k3c_ap, k3b_ap, k3_ap, kOI_ap, kT_ap, kAnd_ap, kOr_ap, kNot_ap, kVA_ap, kVO_ap, kVN_ap, kIf_ap, kC2_ap, kC1_ap, kTup_ap, kLst_ap, kA_ap, kG2_ap, kG1_ap, kCall_ap, kSeq_nx, kSeq_rt, kSeq_bk, kSeq_ct, kSet_ap, kDrop_ap, kRt_ap, kNxE_ap, kAsg_ap, kFor_ap, kTurn_nx, kTurn_ct, kTurn_bk, kTurn_rt, kBody_ap, kWh_ap, kPar2_ap, kPar1_ap, kP3c_ap, kP3b_ap, kP3a_ap, kRg1_ap, kRg2b_ap, kRg2_ap, kSq_list, kSq_tuple, kEnum_ap, kZip2_ll, kZip1_ap, kLcE_ap, kLc_ap, kLt3_ap, kLt2_ap, kLt1_ap, kRun_nx, kRun_rt, vP_imm, vP_lst, vP_ft, wp_var, pP_imm, pP_lst, pP_ft, wp_peek, moP_ap, wp_move, lkP_imm, lkP_ft, wp_look, gsP_src, gsP_fT, gsP_ft, gsP_imm, wp_gSrc, gnP_imm, gnP_ft, gnP_lst, wp_gNm, gfP_dT, gfP_fT, wp_gFrz, kGt_dT, kGt_imm, kGt_ft, wp_gTmp, wp_C, wp_E, wp_I, wp_1, wp_2, wp_2s, wp_3, wp_oN, wp_oS, wp_T, wp_and, wp_or, wp_not, wp_yes, wp_mIf, wp_vAnd, wp_vOr, wp_vNot, wp_aNil, wp_aCons, wp_tup, wp_lst, wp_A, wp_tupRg, wp_lstRg, wp_gNil, wp_gCons, wp_call, wp_lc, wp_wSeq, wp_wEnum, wp_wZip, wp_wRange1, wp_wRange2, wp_sNx, wp_sBk, wp_sCt, wp_sRetN, wp_seq, wp_set, wp_drop, wp_sRet, wp_sIf, wp_asg, wp_tgName, wp_tgTup, wp_tgAll0, wp_tgAll1, wp_tgN1, wp_tgNs, wp_tgG, wp_tgS0, kTgS_ap, wp_tgS1, wp_sFor, wp_par, wp_par3, wp_run, kIx_ap, isLst_ap, wp_tgIx, kAp_ap, wp_append, kPo_ap, wp_popAt, d_add, d_addb, d_addT, d_addL, d_sub, d_mul, d_mulL, d_fdiv, d_mod, d_pow, d_neg, d_lt, d_le, d_gt, d_ge, d_eq, d_ne, d_eqT, d_neT, d_eqL, d_neL, d_eqT0, d_neT0, d_eqL0, d_neL0, d_eqS, d_neS, d_isN, d_isntN, d_lenT, d_lenL, d_abs, d_int, d_intb, d_tupT, d_tupL, tupP_ft, d_listT, d_listL, d_max, d_min, d_ixT, d_ixL, d_slT, d_slL, cut_to, cut_from, d_revL, d_revT, d_repr, wp_pk, wp_tup0, wp_wipe, wp_wipe0, wp_rest, wp_rest0, ix_zs, ap_zs, ap_z0, po_zs, at0_nat, at0_nat1, toN1, toN2, Int.toNat_natCast, rangeD_rng, rangeD_sub, d_sort, d_sortT, wp_dnewT, kDg2_ap, kDg1_ap, dkO_dT, dkO_fT, isSome_some, wp_dget2, kDp2_ap, kDp1_ap, wp_dput, kDE_lst, kDE_imm, kDE_ft, wp_dictE, List.getElem?_cons_zero, List.getElem?_cons_succ, List.set_cons_zero, List.set_cons_succ, List.length_cons, List.length_nil, List.length_map, List.map_cons, List.map_nil, List.replicate_succ, List.replicate_zero, List.nil_append, List.cons_append, Nat.reduceSub, Nat.reduceAdd, Nat.reduceLeDiff, Nat.reduceLT, Nat.zero_add, Nat.sub_self, decide_eq_true_eq, Bool.not_eq_true', decide_eq_false_iff_not, ite_true, ite_false, if_true, if_false, reduceIte, Bool.true_eq_false, Bool.false_eq_true, and_true, true_and, true_implies, not_true_eq_false, not_false_eq_true, Int.reduceLE, Int.reduceLT, gt_iff_lt, wp_indexT, itP_ft, itP_it, kIt_ap, kIr_ap, wp_disp2, kD1_ap, kD2_ap, kD3_ap, kD4_ap, kD5_ap, kD6_ap, wp_chain, kCn1_ap, kCn2_ap, kCnS_ap, kCn3_ap, kCn4_ap, d_sum, d_max1, d_min1])
theorem onc_snoc (k : Int) : ∀ (w : List Int) (p : List Int × Nat), onc p (w ++ [k]) = (if (onc p w).1.getD k.toNat 0 < (onc p w).1.getD (k.toNat + 1) 0 then (swp (onc p w).1 k.toNat, (onc p w).2) else ((onc p w).1, (onc p w).2 + 1)) := by
  intro w
  induction w with
  | nil => intro p; rfl
  | cons j w ih => intro p; exact ih _

end T

set_option Elab.async false
set_option linter.all false
set_option autoImplicit false
set_option maxRecDepth 100000
namespace T
open PySem PySem.Spec L2 PV
local macro_rules | `(tactic| nofun) => `(tactic| simp (disch := (first | omega | (simp only [List.length_set, List.length_map, List.length_append, List.length_take, List.length_drop, rng_len]; omega))) only [wp_ret, wp_bad, wp_ok, wp_if, kR_ap, slP_imm, slP_lst, slP_ft, kE_ap, kI_ap, k1_ap, k2b_ap, k2_ap, k2s_ap, k3c_ap, k3b_ap, k3_ap, kOI_ap, kT_ap, kAnd_ap, kOr_ap, kNot_ap, kVA_ap, kVO_ap, kVN_ap, kIf_ap, kC2_ap, kC1_ap, kTup_ap, kLst_ap, kA_ap, kG2_ap, kG1_ap, kCall_ap, kSeq_nx, kSeq_rt, kSeq_bk, kSeq_ct, kSet_ap, kDrop_ap, kRt_ap, kNxE_ap, kAsg_ap, kFor_ap, kTurn_nx, kTurn_ct, kTurn_bk, kTurn_rt, kBody_ap, kWh_ap, kPar2_ap, kPar1_ap, kP3c_ap, kP3b_ap, kP3a_ap, kRg1_ap, kRg2b_ap, kRg2_ap, kSq_list, kSq_tuple, kEnum_ap, kZip2_ll, kZip1_ap, kLcE_ap, kLc_ap, kLt3_ap, kLt2_ap, kLt1_ap, kRun_nx, kRun_rt, vP_imm, vP_lst, vP_ft, wp_var, pP_imm, pP_lst, pP_ft, wp_peek, moP_ap, wp_move, lkP_imm, lkP_ft, wp_look, gsP_src, gsP_fT, gsP_ft, gsP_imm, wp_gSrc, gnP_imm, gnP_ft, gnP_lst, wp_gNm, gfP_dT, gfP_fT, wp_gFrz, kGt_dT, kGt_imm, kGt_ft, wp_gTmp, wp_C, wp_E, wp_I, wp_1, wp_2, wp_2s, wp_3, wp_oN, wp_oS, wp_T, wp_and, wp_or, wp_not, wp_yes, wp_mIf, wp_vAnd, wp_vOr, wp_vNot, wp_aNil, wp_aCons, wp_tup, wp_lst, wp_A, wp_tupRg, wp_lstRg, wp_gNil, wp_gCons, wp_call, wp_lc, wp_wSeq, wp_wEnum, wp_wZip, wp_wRange1, wp_wRange2, wp_sNx, wp_sBk, wp_sCt, wp_sRetN, wp_seq, wp_set, wp_drop, wp_sRet, wp_sIf, wp_asg, wp_tgName, wp_tgTup, wp_tgAll0, wp_tgAll1, wp_tgN1, wp_tgNs, wp_tgG, wp_tgS0, kTgS_ap, wp_tgS1, wp_sFor, wp_par, wp_par3, wp_run, kIx_ap, isLst_ap, wp_tgIx, kAp_ap, wp_append, kPo_ap, wp_popAt, d_add, d_addb, d_addT, d_addL, d_sub, d_mul, d_mulL, d_fdiv, d_mod, d_pow, d_neg, d_lt, d_le, d_gt, d_ge, d_eq, d_ne, d_eqT, d_neT, d_eqL, d_neL, d_eqT0, d_neT0, d_eqL0, d_neL0, d_eqS, d_neS, d_isN, d_isntN, d_lenT, d_lenL, d_abs, d_int, d_intb, d_tupT, d_tupL, tupP_ft, d_listT, d_listL, d_max, d_min, d_ixT, d_ixL, d_slT, d_slL, cut_to, cut_from, d_revL, d_revT, d_repr, wp_pk, wp_tup0, wp_wipe, wp_wipe0, wp_rest, wp_rest0, ix_zs, ap_zs, ap_z0, po_zs, at0_nat, at0_nat1, toN1, toN2, Int.toNat_natCast, rangeD_rng, rangeD_sub, d_sort, d_sortT, wp_dnewT, kDg2_ap, kDg1_ap, dkO_dT, dkO_fT, isSome_some, wp_dget2, kDp2_ap, kDp1_ap, wp_dput, kDE_lst, kDE_imm, kDE_ft, wp_dictE, List.getElem?_cons_zero, List.getElem?_cons_succ, List.set_cons_zero, List.set_cons_succ, List.length_cons, List.length_nil, List.length_map, List.map_cons, List.map_nil, List.replicate_succ, List.replicate_zero, List.nil_append, List.cons_append, Nat.reduceSub, Nat.reduceAdd, Nat.reduceLeDiff, Nat.reduceLT, Nat.zero_add, Nat.sub_self, decide_eq_true_eq, Bool.not_eq_true', decide_eq_false_iff_not, ite_true, ite_false, if_true, if_false, reduceIte, Bool.true_eq_false, Bool.false_eq_true, and_true, true_and, true_implies, not_true_eq_false, not_false_eq_true, Int.reduceLE, Int.reduceLT, gt_iff_lt, wp_indexT, itP_ft, itP_it, kIt_ap, kIr_ap, wp_disp2, kD1_ap, kD2_ap, kD3_ap, kD4_ap, kD5_ap, kD6_ap, wp_chain, kCn1_ap, kCn2_ap, kCnS_ap, kCn3_ap, kCn4_ap, d_sum, d_max1, d_min1])
theorem zip_zs : ∀ a b : List Int, zipP (a.map PyData.int) (b.map PyData.int) = (a.zip b).map fun p => PyData.tuple [.int p.1, .int p.2]
  | [], _ => rfl
  | _ :: _, [] => rfl
  | x :: a, y :: b => by
    show PyData.tuple [.int x, .int y] :: zipP _ _ = _
    rw [zip_zs a b]
    rfl
section
variable {n : Nat} {u v w : List Int} {s s0 : Sl}
theorem wp_taken (hu : IsRow n u) (hn : n ≤ 1000) (hw : Wd n w) (h0 : TupS s0 (zs u)) (hs : TupS s (zs w)) (K : Sl → Prop) (k : ∀ s', TupS s' (zs (onc (u, 0) w).1) → K s') : WP (w_taken_once [s0, s]) K := by
  rw [w_taken_once_def, wp_run]
  unfold m_taken_once
  simp (disch := (first | omega | (simp only [List.length_set, List.length_map, List.length_append, List.length_take, List.length_drop, rng_len]; omega))) only [wp_ret, wp_bad, wp_ok, wp_if, kR_ap, slP_imm, slP_lst, slP_ft, kE_ap, kI_ap, k1_ap, k2b_ap, k2_ap, k2s_ap, k3c_ap, k3b_ap, k3_ap, kOI_ap, kT_ap, kAnd_ap, kOr_ap, kNot_ap, kVA_ap, kVO_ap, kVN_ap, kIf_ap, kC2_ap, kC1_ap, kTup_ap, kLst_ap, kA_ap, kG2_ap, kG1_ap, kCall_ap, kSeq_nx, kSeq_rt, kSeq_bk, kSeq_ct, kSet_ap, kDrop_ap, kRt_ap, kNxE_ap, kAsg_ap, kFor_ap, kTurn_nx, kTurn_ct, kTurn_bk, kTurn_rt, kBody_ap, kWh_ap, kPar2_ap, kPar1_ap, kP3c_ap, kP3b_ap, kP3a_ap, kRg1_ap, kRg2b_ap, kRg2_ap, kSq_list, kSq_tuple, kEnum_ap, kZip2_ll, kZip1_ap, kLcE_ap, kLc_ap, kLt3_ap, kLt2_ap, kLt1_ap, kRun_nx, kRun_rt, vP_imm, vP_lst, vP_ft, wp_var, pP_imm, pP_lst, pP_ft, wp_peek, moP_ap, wp_move, lkP_imm, lkP_ft, wp_look, gsP_src, gsP_fT, gsP_ft, gsP_imm, wp_gSrc, gnP_imm, gnP_ft, gnP_lst, wp_gNm, gfP_dT, gfP_fT, wp_gFrz, kGt_dT, kGt_imm, kGt_ft, wp_gTmp, wp_C, wp_E, wp_I, wp_1, wp_2, wp_2s, wp_3, wp_oN, wp_oS, wp_T, wp_and, wp_or, wp_not, wp_yes, wp_mIf, wp_vAnd, wp_vOr, wp_vNot, wp_aNil, wp_aCons, wp_tup, wp_lst, wp_A, wp_tupRg, wp_lstRg, wp_gNil, wp_gCons, wp_call, wp_lc, wp_wSeq, wp_wEnum, wp_wZip, wp_wRange1, wp_wRange2, wp_sNx, wp_sBk, wp_sCt, wp_sRetN, wp_seq, wp_set, wp_drop, wp_sRet, wp_sIf, wp_asg, wp_tgName, wp_tgTup, wp_tgAll0, wp_tgAll1, wp_tgN1, wp_tgNs, wp_tgG, wp_tgS0, kTgS_ap, wp_tgS1, wp_sFor, wp_par, wp_par3, wp_run, kIx_ap, isLst_ap, wp_tgIx, kAp_ap, wp_append, kPo_ap, wp_popAt, d_add, d_addb, d_addT, d_addL, d_sub, d_mul, d_mulL, d_fdiv, d_mod, d_pow, d_neg, d_lt, d_le, d_gt, d_ge, d_eq, d_ne, d_eqT, d_neT, d_eqL, d_neL, d_eqT0, d_neT0, d_eqL0, d_neL0, d_eqS, d_neS, d_isN, d_isntN, d_lenT, d_lenL, d_abs, d_int, d_intb, d_tupT, d_tupL, tupP_ft, d_listT, d_listL, d_max, d_min, d_ixT, d_ixL, d_slT, d_slL, cut_to, cut_from, d_revL, d_revT, d_repr, wp_pk, wp_tup0, wp_wipe, wp_wipe0, wp_rest, wp_rest0, ix_zs, ap_zs, ap_z0, po_zs, at0_nat, at0_nat1, toN1, toN2, Int.toNat_natCast, rangeD_rng, rangeD_sub, d_sort, d_sortT, wp_dnewT, kDg2_ap, kDg1_ap, dkO_dT, dkO_fT, isSome_some, wp_dget2, kDp2_ap, kDp1_ap, wp_dput, kDE_lst, kDE_imm, kDE_ft, wp_dictE, List.getElem?_cons_zero, List.getElem?_cons_succ, List.set_cons_zero, List.set_cons_succ, List.length_cons, List.length_nil, List.length_map, List.map_cons, List.map_nil, List.replicate_succ, List.replicate_zero, List.nil_append, List.cons_append, Nat.reduceSub, Nat.reduceAdd, Nat.reduceLeDiff, Nat.reduceLT, Nat.zero_add, Nat.sub_self, decide_eq_true_eq, Bool.not_eq_true', decide_eq_false_iff_not, ite_true, ite_false, if_true, if_false, reduceIte, Bool.true_eq_false, Bool.false_eq_true, and_true, true_and, true_implies, not_true_eq_false, not_false_eq_true, Int.reduceLE, Int.reduceLT, gt_iff_lt, wp_indexT, itP_ft, itP_it, kIt_ap, kIr_ap, wp_disp2, kD1_ap, kD2_ap, kD3_ap, kD4_ap, kD5_ap, kD6_ap, wp_chain, kCn1_ap, kCn2_ap, kCnS_ap, kCn3_ap, kCn4_ap, d_sum, d_max1, d_min1, tv hs]
  refine for_inv PyData.int (fun d env => ∃ s1 e2, env = [some s1, some s, e2] ∧ TupS s1 (zs (onc (u, 0) d).1)) w [] _ ⟨_, _, rfl, h0⟩ ?_ ?_
  · rintro d j rest env e ⟨s1, e2, rfl, h1⟩
    rw [List.nil_append] at e
    have hj := hw j (by rw [e]; simp)
    have hr := onc_row d (u, 0) hu fun i hi => hw i (by rw [e]; simp [hi])
    have hl := hr.len
    obtain ⟨m, rfl⟩ : ∃ m : Nat, j = (m : Int) := ⟨j.toNat, by omega⟩
    have hd := onc_snoc (m : Int) d (u, 0)
    rw [Int.toNat_natCast] at hd
    simp (disch := (first | omega | (simp only [List.length_set, List.length_map, List.length_append, List.length_take, List.length_drop, rng_len]; omega))) only [wp_ret, wp_bad, wp_ok, wp_if, kR_ap, slP_imm, slP_lst, slP_ft, kE_ap, kI_ap, k1_ap, k2b_ap, k2_ap, k2s_ap, k3c_ap, k3b_ap, k3_ap, kOI_ap, kT_ap, kAnd_ap, kOr_ap, kNot_ap, kVA_ap, kVO_ap, kVN_ap, kIf_ap, kC2_ap, kC1_ap, kTup_ap, kLst_ap, kA_ap, kG2_ap, kG1_ap, kCall_ap, kSeq_nx, kSeq_rt, kSeq_bk, kSeq_ct, kSet_ap, kDrop_ap, kRt_ap, kNxE_ap, kAsg_ap, kFor_ap, kTurn_nx, kTurn_ct, kTurn_bk, kTurn_rt, kBody_ap, kWh_ap, kPar2_ap, kPar1_ap, kP3c_ap, kP3b_ap, kP3a_ap, kRg1_ap, kRg2b_ap, kRg2_ap, kSq_list, kSq_tuple, kEnum_ap, kZip2_ll, kZip1_ap, kLcE_ap, kLc_ap, kLt3_ap, kLt2_ap, kLt1_ap, kRun_nx, kRun_rt, vP_imm, vP_lst, vP_ft, wp_var, pP_imm, pP_lst, pP_ft, wp_peek, moP_ap, wp_move, lkP_imm, lkP_ft, wp_look, gsP_src, gsP_fT, gsP_ft, gsP_imm, wp_gSrc, gnP_imm, gnP_ft, gnP_lst, wp_gNm, gfP_dT, gfP_fT, wp_gFrz, kGt_dT, kGt_imm, kGt_ft, wp_gTmp, wp_C, wp_E, wp_I, wp_1, wp_2, wp_2s, wp_3, wp_oN, wp_oS, wp_T, wp_and, wp_or, wp_not, wp_yes, wp_mIf, wp_vAnd, wp_vOr, wp_vNot, wp_aNil, wp_aCons, wp_tup, wp_lst, wp_A, wp_tupRg, wp_lstRg, wp_gNil, wp_gCons, wp_call, wp_lc, wp_wSeq, wp_wEnum, wp_wZip, wp_wRange1, wp_wRange2, wp_sNx, wp_sBk, wp_sCt, wp_sRetN, wp_seq, wp_set, wp_drop, wp_sRet, wp_sIf, wp_asg, wp_tgName, wp_tgTup, wp_tgAll0, wp_tgAll1, wp_tgN1, wp_tgNs, wp_tgG, wp_tgS0, kTgS_ap, wp_tgS1, wp_sFor, wp_par, wp_par3, wp_run, kIx_ap, isLst_ap, wp_tgIx, kAp_ap, wp_append, kPo_ap, wp_popAt, d_add, d_addb, d_addT, d_addL, d_sub, d_mul, d_mulL, d_fdiv, d_mod, d_pow, d_neg, d_lt, d_le, d_gt, d_ge, d_eq, d_ne, d_eqT, d_neT, d_eqL, d_neL, d_eqT0, d_neT0, d_eqL0, d_neL0, d_eqS, d_neS, d_isN, d_isntN, d_lenT, d_lenL, d_abs, d_int, d_intb, d_tupT, d_tupL, tupP_ft, d_listT, d_listL, d_max, d_min, d_ixT, d_ixL, d_slT, d_slL, cut_to, cut_from, d_revL, d_revT, d_repr, wp_pk, wp_tup0, wp_wipe, wp_wipe0, wp_rest, wp_rest0, ix_zs, ap_zs, ap_z0, po_zs, at0_nat, at0_nat1, toN1, toN2, Int.toNat_natCast, rangeD_rng, rangeD_sub, d_sort, d_sortT, wp_dnewT, kDg2_ap, kDg1_ap, dkO_dT, dkO_fT, isSome_some, wp_dget2, kDp2_ap, kDp1_ap, wp_dput, kDE_lst, kDE_imm, kDE_ft, wp_dictE, List.getElem?_cons_zero, List.getElem?_cons_succ, List.set_cons_zero, List.set_cons_succ, List.length_cons, List.length_nil, List.length_map, List.map_cons, List.map_nil, List.replicate_succ, List.replicate_zero, List.nil_append, List.cons_append, Nat.reduceSub, Nat.reduceAdd, Nat.reduceLeDiff, Nat.reduceLT, Nat.zero_add, Nat.sub_self, decide_eq_true_eq, Bool.not_eq_true', decide_eq_false_iff_not, ite_true, ite_false, if_true, if_false, reduceIte, Bool.true_eq_false, Bool.false_eq_true, and_true, true_and, true_implies, not_true_eq_false, not_false_eq_true, Int.reduceLE, Int.reduceLT, gt_iff_lt, wp_indexT, itP_ft, itP_it, kIt_ap, kIr_ap, wp_disp2, kD1_ap, kD2_ap, kD3_ap, kD4_ap, kD5_ap, kD6_ap, wp_chain, kCn1_ap, kCn2_ap, kCnS_ap, kCn3_ap, kCn4_ap, d_sum, d_max1, d_min1, tp h1, tgn h1, tv h1]
    by_cases c : (onc (u, 0) d).1.getD m 0 < (onc (u, 0) d).1.getD (m + 1) 0
    · rw [if_pos c] at hd
      rw [if_pos c]
      refine wp_swapped (by omega) h1 _ ?_
      nofun
      rw [hd]
      exact ⟨_, _, rfl, tupF _⟩
    · rw [if_neg c] at hd
      rw [if_neg c, hd]
      exact ⟨_, _, rfl, tupI _⟩
  · rintro env ⟨s1, e2, rfl, h1⟩
    rw [List.nil_append] at h1
    nofun
    exact k _ h1
theorem wp_less_w (hu : IsRow n u) (hn : n ≤ 1000) (hw : Wd n w) (h0 : TupS s0 (zs u)) (hs : TupS s (zs w)) (K : Sl → Prop) (k : ∀ s', TupS s' (zs (low u w.reverse)) → K s') : WP (w_taken_less [s0, s]) K := by
  rw [w_taken_less_def, wp_run]
  unfold m_taken_less
  simp (disch := (first | omega | (simp only [List.length_set, List.length_map, List.length_append, List.length_take, List.length_drop, rng_len]; omega))) only [wp_ret, wp_bad, wp_ok, wp_if, kR_ap, slP_imm, slP_lst, slP_ft, kE_ap, kI_ap, k1_ap, k2b_ap, k2_ap, k2s_ap, k3c_ap, k3b_ap, k3_ap, kOI_ap, kT_ap, kAnd_ap, kOr_ap, kNot_ap, kVA_ap, kVO_ap, kVN_ap, kIf_ap, kC2_ap, kC1_ap, kTup_ap, kLst_ap, kA_ap, kG2_ap, kG1_ap, kCall_ap, kSeq_nx, kSeq_rt, kSeq_bk, kSeq_ct, kSet_ap, kDrop_ap, kRt_ap, kNxE_ap, kAsg_ap, kFor_ap, kTurn_nx, kTurn_ct, kTurn_bk, kTurn_rt, kBody_ap, kWh_ap, kPar2_ap, kPar1_ap, kP3c_ap, kP3b_ap, kP3a_ap, kRg1_ap, kRg2b_ap, kRg2_ap, kSq_list, kSq_tuple, kEnum_ap, kZip2_ll, kZip1_ap, kLcE_ap, kLc_ap, kLt3_ap, kLt2_ap, kLt1_ap, kRun_nx, kRun_rt, vP_imm, vP_lst, vP_ft, wp_var, pP_imm, pP_lst, pP_ft, wp_peek, moP_ap, wp_move, lkP_imm, lkP_ft, wp_look, gsP_src, gsP_fT, gsP_ft, gsP_imm, wp_gSrc, gnP_imm, gnP_ft, gnP_lst, wp_gNm, gfP_dT, gfP_fT, wp_gFrz, kGt_dT, kGt_imm, kGt_ft, wp_gTmp, wp_C, wp_E, wp_I, wp_1, wp_2, wp_2s, wp_3, wp_oN, wp_oS, wp_T, wp_and, wp_or, wp_not, wp_yes, wp_mIf, wp_vAnd, wp_vOr, wp_vNot, wp_aNil, wp_aCons, wp_tup, wp_lst, wp_A, wp_tupRg, wp_lstRg, wp_gNil, wp_gCons, wp_call, wp_lc, wp_wSeq, wp_wEnum, wp_wZip, wp_wRange1, wp_wRange2, wp_sNx, wp_sBk, wp_sCt, wp_sRetN, wp_seq, wp_set, wp_drop, wp_sRet, wp_sIf, wp_asg, wp_tgName, wp_tgTup, wp_tgAll0, wp_tgAll1, wp_tgN1, wp_tgNs, wp_tgG, wp_tgS0, kTgS_ap, wp_tgS1, wp_sFor, wp_par, wp_par3, wp_run, kIx_ap, isLst_ap, wp_tgIx, kAp_ap, wp_append, kPo_ap, wp_popAt, d_add, d_addb, d_addT, d_addL, d_sub, d_mul, d_mulL, d_fdiv, d_mod, d_pow, d_neg, d_lt, d_le, d_gt, d_ge, d_eq, d_ne, d_eqT, d_neT, d_eqL, d_neL, d_eqT0, d_neT0, d_eqL0, d_neL0, d_eqS, d_neS, d_isN, d_isntN, d_lenT, d_lenL, d_abs, d_int, d_intb, d_tupT, d_tupL, tupP_ft, d_listT, d_listL, d_max, d_min, d_ixT, d_ixL, d_slT, d_slL, cut_to, cut_from, d_revL, d_revT, d_repr, wp_pk, wp_tup0, wp_wipe, wp_wipe0, wp_rest, wp_rest0, ix_zs, ap_zs, ap_z0, po_zs, at0_nat, at0_nat1, toN1, toN2, Int.toNat_natCast, rangeD_rng, rangeD_sub, d_sort, d_sortT, wp_dnewT, kDg2_ap, kDg1_ap, dkO_dT, dkO_fT, isSome_some, wp_dget2, kDp2_ap, kDp1_ap, wp_dput, kDE_lst, kDE_imm, kDE_ft, wp_dictE, List.getElem?_cons_zero, List.getElem?_cons_succ, List.set_cons_zero, List.set_cons_succ, List.length_cons, List.length_nil, List.length_map, List.map_cons, List.map_nil, List.replicate_succ, List.replicate_zero, List.nil_append, List.cons_append, Nat.reduceSub, Nat.reduceAdd, Nat.reduceLeDiff, Nat.reduceLT, Nat.zero_add, Nat.sub_self, decide_eq_true_eq, Bool.not_eq_true', decide_eq_false_iff_not, ite_true, ite_false, if_true, if_false, reduceIte, Bool.true_eq_false, Bool.false_eq_true, and_true, true_and, true_implies, not_true_eq_false, not_false_eq_true, Int.reduceLE, Int.reduceLT, gt_iff_lt, wp_indexT, itP_ft, itP_it, kIt_ap, kIr_ap, wp_disp2, kD1_ap, kD2_ap, kD3_ap, kD4_ap, kD5_ap, kD6_ap, wp_chain, kCn1_ap, kCn2_ap, kCnS_ap, kCn3_ap, kCn4_ap, d_sum, d_max1, d_min1, tp hs]
  rw [← List.map_reverse]
  refine for_inv PyData.int (fun d env => ∃ s1 e2, env = [some s1, some s, e2] ∧ TupS s1 (zs (low u d))) w.reverse [] _ ⟨_, _, rfl, h0⟩ ?_ ?_
  · rintro d j rest env e ⟨s1, e2, rfl, h1⟩
    rw [List.nil_append] at e
    have hw' := wd_rev hw
    have hj := hw' j (by rw [e]; simp)
    have hr := low_row (w := d) hu fun i hi => hw' i (by rw [e]; simp [hi])
    have hl := hr.len
    obtain ⟨m, rfl⟩ : ∃ m : Nat, j = (m : Int) := ⟨j.toNat, by omega⟩
    have hd := low_snoc (m : Int) d u
    rw [Int.toNat_natCast] at hd
    simp (disch := (first | omega | (simp only [List.length_set, List.length_map, List.length_append, List.length_take, List.length_drop, rng_len]; omega))) only [wp_ret, wp_bad, wp_ok, wp_if, kR_ap, slP_imm, slP_lst, slP_ft, kE_ap, kI_ap, k1_ap, k2b_ap, k2_ap, k2s_ap, k3c_ap, k3b_ap, k3_ap, kOI_ap, kT_ap, kAnd_ap, kOr_ap, kNot_ap, kVA_ap, kVO_ap, kVN_ap, kIf_ap, kC2_ap, kC1_ap, kTup_ap, kLst_ap, kA_ap, kG2_ap, kG1_ap, kCall_ap, kSeq_nx, kSeq_rt, kSeq_bk, kSeq_ct, kSet_ap, kDrop_ap, kRt_ap, kNxE_ap, kAsg_ap, kFor_ap, kTurn_nx, kTurn_ct, kTurn_bk, kTurn_rt, kBody_ap, kWh_ap, kPar2_ap, kPar1_ap, kP3c_ap, kP3b_ap, kP3a_ap, kRg1_ap, kRg2b_ap, kRg2_ap, kSq_list, kSq_tuple, kEnum_ap, kZip2_ll, kZip1_ap, kLcE_ap, kLc_ap, kLt3_ap, kLt2_ap, kLt1_ap, kRun_nx, kRun_rt, vP_imm, vP_lst, vP_ft, wp_var, pP_imm, pP_lst, pP_ft, wp_peek, moP_ap, wp_move, lkP_imm, lkP_ft, wp_look, gsP_src, gsP_fT, gsP_ft, gsP_imm, wp_gSrc, gnP_imm, gnP_ft, gnP_lst, wp_gNm, gfP_dT, gfP_fT, wp_gFrz, kGt_dT, kGt_imm, kGt_ft, wp_gTmp, wp_C, wp_E, wp_I, wp_1, wp_2, wp_2s, wp_3, wp_oN, wp_oS, wp_T, wp_and, wp_or, wp_not, wp_yes, wp_mIf, wp_vAnd, wp_vOr, wp_vNot, wp_aNil, wp_aCons, wp_tup, wp_lst, wp_A, wp_tupRg, wp_lstRg, wp_gNil, wp_gCons, wp_call, wp_lc, wp_wSeq, wp_wEnum, wp_wZip, wp_wRange1, wp_wRange2, wp_sNx, wp_sBk, wp_sCt, wp_sRetN, wp_seq, wp_set, wp_drop, wp_sRet, wp_sIf, wp_asg, wp_tgName, wp_tgTup, wp_tgAll0, wp_tgAll1, wp_tgN1, wp_tgNs, wp_tgG, wp_tgS0, kTgS_ap, wp_tgS1, wp_sFor, wp_par, wp_par3, wp_run, kIx_ap, isLst_ap, wp_tgIx, kAp_ap, wp_append, kPo_ap, wp_popAt, d_add, d_addb, d_addT, d_addL, d_sub, d_mul, d_mulL, d_fdiv, d_mod, d_pow, d_neg, d_lt, d_le, d_gt, d_ge, d_eq, d_ne, d_eqT, d_neT, d_eqL, d_neL, d_eqT0, d_neT0, d_eqL0, d_neL0, d_eqS, d_neS, d_isN, d_isntN, d_lenT, d_lenL, d_abs, d_int, d_intb, d_tupT, d_tupL, tupP_ft, d_listT, d_listL, d_max, d_min, d_ixT, d_ixL, d_slT, d_slL, cut_to, cut_from, d_revL, d_revT, d_repr, wp_pk, wp_tup0, wp_wipe, wp_wipe0, wp_rest, wp_rest0, ix_zs, ap_zs, ap_z0, po_zs, at0_nat, at0_nat1, toN1, toN2, Int.toNat_natCast, rangeD_rng, rangeD_sub, d_sort, d_sortT, wp_dnewT, kDg2_ap, kDg1_ap, dkO_dT, dkO_fT, isSome_some, wp_dget2, kDp2_ap, kDp1_ap, wp_dput, kDE_lst, kDE_imm, kDE_ft, wp_dictE, List.getElem?_cons_zero, List.getElem?_cons_succ, List.set_cons_zero, List.set_cons_succ, List.length_cons, List.length_nil, List.length_map, List.map_cons, List.map_nil, List.replicate_succ, List.replicate_zero, List.nil_append, List.cons_append, Nat.reduceSub, Nat.reduceAdd, Nat.reduceLeDiff, Nat.reduceLT, Nat.zero_add, Nat.sub_self, decide_eq_true_eq, Bool.not_eq_true', decide_eq_false_iff_not, ite_true, ite_false, if_true, if_false, reduceIte, Bool.true_eq_false, Bool.false_eq_true, and_true, true_and, true_implies, not_true_eq_false, not_false_eq_true, Int.reduceLE, Int.reduceLT, gt_iff_lt, wp_indexT, itP_ft, itP_it, kIt_ap, kIr_ap, wp_disp2, kD1_ap, kD2_ap, kD3_ap, kD4_ap, kD5_ap, kD6_ap, wp_chain, kCn1_ap, kCn2_ap, kCnS_ap, kCn3_ap, kCn4_ap, d_sum, d_max1, d_min1, tp h1, tgn h1, tv h1]
    by_cases c : (low u d).getD (m + 1) 0 < (low u d).getD m 0
    · rw [if_pos c] at hd
      rw [if_pos c]
      refine wp_swapped (by omega) h1 _ ?_
      nofun
      rw [hd]
      exact ⟨_, _, rfl, tupF _⟩
    · rw [if_neg c] at hd
      rw [if_neg c, hd]
      exact ⟨_, _, rfl, tupI _⟩
  · rintro env ⟨s1, e2, rfl, h1⟩
    rw [List.nil_append] at h1
    nofun
    exact k _ h1
theorem wp_once (hu : IsRow n u) (hv : IsRow n v) (h1 : 1 ≤ n) (h12 : n ≤ 12) (h0 : TupS s0 (zs u)) (hs : TupS s (zs v)) (K : Sl → Prop) (k : ∀ w s', LeW n w v → TupS s' (zs (onc (u, 0) w).1) → K s') : WP (w_once [s0, s]) K := by
  rw [w_once_def, wp_run]
  unfold m_once
  simp (disch := (first | omega | (simp only [List.length_set, List.length_map, List.length_append, List.length_take, List.length_drop, rng_len]; omega))) only [wp_ret, wp_bad, wp_ok, wp_if, kR_ap, slP_imm, slP_lst, slP_ft, kE_ap, kI_ap, k1_ap, k2b_ap, k2_ap, k2s_ap, k3c_ap, k3b_ap, k3_ap, kOI_ap, kT_ap, kAnd_ap, kOr_ap, kNot_ap, kVA_ap, kVO_ap, kVN_ap, kIf_ap, kC2_ap, kC1_ap, kTup_ap, kLst_ap, kA_ap, kG2_ap, kG1_ap, kCall_ap, kSeq_nx, kSeq_rt, kSeq_bk, kSeq_ct, kSet_ap, kDrop_ap, kRt_ap, kNxE_ap, kAsg_ap, kFor_ap, kTurn_nx, kTurn_ct, kTurn_bk, kTurn_rt, kBody_ap, kWh_ap, kPar2_ap, kPar1_ap, kP3c_ap, kP3b_ap, kP3a_ap, kRg1_ap, kRg2b_ap, kRg2_ap, kSq_list, kSq_tuple, kEnum_ap, kZip2_ll, kZip1_ap, kLcE_ap, kLc_ap, kLt3_ap, kLt2_ap, kLt1_ap, kRun_nx, kRun_rt, vP_imm, vP_lst, vP_ft, wp_var, pP_imm, pP_lst, pP_ft, wp_peek, moP_ap, wp_move, lkP_imm, lkP_ft, wp_look, gsP_src, gsP_fT, gsP_ft, gsP_imm, wp_gSrc, gnP_imm, gnP_ft, gnP_lst, wp_gNm, gfP_dT, gfP_fT, wp_gFrz, kGt_dT, kGt_imm, kGt_ft, wp_gTmp, wp_C, wp_E, wp_I, wp_1, wp_2, wp_2s, wp_3, wp_oN, wp_oS, wp_T, wp_and, wp_or, wp_not, wp_yes, wp_mIf, wp_vAnd, wp_vOr, wp_vNot, wp_aNil, wp_aCons, wp_tup, wp_lst, wp_A, wp_tupRg, wp_lstRg, wp_gNil, wp_gCons, wp_call, wp_lc, wp_wSeq, wp_wEnum, wp_wZip, wp_wRange1, wp_wRange2, wp_sNx, wp_sBk, wp_sCt, wp_sRetN, wp_seq, wp_set, wp_drop, wp_sRet, wp_sIf, wp_asg, wp_tgName, wp_tgTup, wp_tgAll0, wp_tgAll1, wp_tgN1, wp_tgNs, wp_tgG, wp_tgS0, kTgS_ap, wp_tgS1, wp_sFor, wp_par, wp_par3, wp_run, kIx_ap, isLst_ap, wp_tgIx, kAp_ap, wp_append, kPo_ap, wp_popAt, d_add, d_addb, d_addT, d_addL, d_sub, d_mul, d_mulL, d_fdiv, d_mod, d_pow, d_neg, d_lt, d_le, d_gt, d_ge, d_eq, d_ne, d_eqT, d_neT, d_eqL, d_neL, d_eqT0, d_neT0, d_eqL0, d_neL0, d_eqS, d_neS, d_isN, d_isntN, d_lenT, d_lenL, d_abs, d_int, d_intb, d_tupT, d_tupL, tupP_ft, d_listT, d_listL, d_max, d_min, d_ixT, d_ixL, d_slT, d_slL, cut_to, cut_from, d_revL, d_revT, d_repr, wp_pk, wp_tup0, wp_wipe, wp_wipe0, wp_rest, wp_rest0, ix_zs, ap_zs, ap_z0, po_zs, at0_nat, at0_nat1, toN1, toN2, Int.toNat_natCast, rangeD_rng, rangeD_sub, d_sort, d_sortT, wp_dnewT, kDg2_ap, kDg1_ap, dkO_dT, dkO_fT, isSome_some, wp_dget2, kDp2_ap, kDp1_ap, wp_dput, kDE_lst, kDE_imm, kDE_ft, wp_dictE, List.getElem?_cons_zero, List.getElem?_cons_succ, List.set_cons_zero, List.set_cons_succ, List.length_cons, List.length_nil, List.length_map, List.map_cons, List.map_nil, List.replicate_succ, List.replicate_zero, List.nil_append, List.cons_append, Nat.reduceSub, Nat.reduceAdd, Nat.reduceLeDiff, Nat.reduceLT, Nat.zero_add, Nat.sub_self, decide_eq_true_eq, Bool.not_eq_true', decide_eq_false_iff_not, ite_true, ite_false, if_true, if_false, reduceIte, Bool.true_eq_false, Bool.false_eq_true, and_true, true_and, true_implies, not_true_eq_false, not_false_eq_true, Int.reduceLE, Int.reduceLT, gt_iff_lt, wp_indexT, itP_ft, itP_it, kIt_ap, kIr_ap, wp_disp2, kD1_ap, kD2_ap, kD3_ap, kD4_ap, kD5_ap, kD6_ap, wp_chain, kCn1_ap, kCn2_ap, kCnS_ap, kCn3_ap, kCn4_ap, d_sum, d_max1, d_min1, tgn h0, tgn hs]
  refine wp_first_word hv h1 h12 _ hs fun w hw => ?_
  nofun
  refine wp_taken hu (by omega) (hw.lwd hv).wd h0 (tupF _) _ fun s' hs' => ?_
  nofun
  exact k w _ hw hs'
theorem wp_less (hu : IsRow n u) (hv : IsRow n v) (h1 : 1 ≤ n) (h12 : n ≤ 12) (h0 : TupS s0 (zs u)) (hs : TupS s (zs v)) (K : Sl → Prop) (k : ∀ w s', LeW n w v → TupS s' (zs (low u w.reverse)) → K s') : WP (w_less [s0, s]) K := by
  rw [w_less_def, wp_run]
  unfold m_less
  simp (disch := (first | omega | (simp only [List.length_set, List.length_map, List.length_append, List.length_take, List.length_drop, rng_len]; omega))) only [wp_ret, wp_bad, wp_ok, wp_if, kR_ap, slP_imm, slP_lst, slP_ft, kE_ap, kI_ap, k1_ap, k2b_ap, k2_ap, k2s_ap, k3c_ap, k3b_ap, k3_ap, kOI_ap, kT_ap, kAnd_ap, kOr_ap, kNot_ap, kVA_ap, kVO_ap, kVN_ap, kIf_ap, kC2_ap, kC1_ap, kTup_ap, kLst_ap, kA_ap, kG2_ap, kG1_ap, kCall_ap, kSeq_nx, kSeq_rt, kSeq_bk, kSeq_ct, kSet_ap, kDrop_ap, kRt_ap, kNxE_ap, kAsg_ap, kFor_ap, kTurn_nx, kTurn_ct, kTurn_bk, kTurn_rt, kBody_ap, kWh_ap, kPar2_ap, kPar1_ap, kP3c_ap, kP3b_ap, kP3a_ap, kRg1_ap, kRg2b_ap, kRg2_ap, kSq_list, kSq_tuple, kEnum_ap, kZip2_ll, kZip1_ap, kLcE_ap, kLc_ap, kLt3_ap, kLt2_ap, kLt1_ap, kRun_nx, kRun_rt, vP_imm, vP_lst, vP_ft, wp_var, pP_imm, pP_lst, pP_ft, wp_peek, moP_ap, wp_move, lkP_imm, lkP_ft, wp_look, gsP_src, gsP_fT, gsP_ft, gsP_imm, wp_gSrc, gnP_imm, gnP_ft, gnP_lst, wp_gNm, gfP_dT, gfP_fT, wp_gFrz, kGt_dT, kGt_imm, kGt_ft, wp_gTmp, wp_C, wp_E, wp_I, wp_1, wp_2, wp_2s, wp_3, wp_oN, wp_oS, wp_T, wp_and, wp_or, wp_not, wp_yes, wp_mIf, wp_vAnd, wp_vOr, wp_vNot, wp_aNil, wp_aCons, wp_tup, wp_lst, wp_A, wp_tupRg, wp_lstRg, wp_gNil, wp_gCons, wp_call, wp_lc, wp_wSeq, wp_wEnum, wp_wZip, wp_wRange1, wp_wRange2, wp_sNx, wp_sBk, wp_sCt, wp_sRetN, wp_seq, wp_set, wp_drop, wp_sRet, wp_sIf, wp_asg, wp_tgName, wp_tgTup, wp_tgAll0, wp_tgAll1, wp_tgN1, wp_tgNs, wp_tgG, wp_tgS0, kTgS_ap, wp_tgS1, wp_sFor, wp_par, wp_par3, wp_run, kIx_ap, isLst_ap, wp_tgIx, kAp_ap, wp_append, kPo_ap, wp_popAt, d_add, d_addb, d_addT, d_addL, d_sub, d_mul, d_mulL, d_fdiv, d_mod, d_pow, d_neg, d_lt, d_le, d_gt, d_ge, d_eq, d_ne, d_eqT, d_neT, d_eqL, d_neL, d_eqT0, d_neT0, d_eqL0, d_neL0, d_eqS, d_neS, d_isN, d_isntN, d_lenT, d_lenL, d_abs, d_int, d_intb, d_tupT, d_tupL, tupP_ft, d_listT, d_listL, d_max, d_min, d_ixT, d_ixL, d_slT, d_slL, cut_to, cut_from, d_revL, d_revT, d_repr, wp_pk, wp_tup0, wp_wipe, wp_wipe0, wp_rest, wp_rest0, ix_zs, ap_zs, ap_z0, po_zs, at0_nat, at0_nat1, toN1, toN2, Int.toNat_natCast, rangeD_rng, rangeD_sub, d_sort, d_sortT, wp_dnewT, kDg2_ap, kDg1_ap, dkO_dT, dkO_fT, isSome_some, wp_dget2, kDp2_ap, kDp1_ap, wp_dput, kDE_lst, kDE_imm, kDE_ft, wp_dictE, List.getElem?_cons_zero, List.getElem?_cons_succ, List.set_cons_zero, List.set_cons_succ, List.length_cons, List.length_nil, List.length_map, List.map_cons, List.map_nil, List.replicate_succ, List.replicate_zero, List.nil_append, List.cons_append, Nat.reduceSub, Nat.reduceAdd, Nat.reduceLeDiff, Nat.reduceLT, Nat.zero_add, Nat.sub_self, decide_eq_true_eq, Bool.not_eq_true', decide_eq_false_iff_not, ite_true, ite_false, if_true, if_false, reduceIte, Bool.true_eq_false, Bool.false_eq_true, and_true, true_and, true_implies, not_true_eq_false, not_false_eq_true, Int.reduceLE, Int.reduceLT, gt_iff_lt, wp_indexT, itP_ft, itP_it, kIt_ap, kIr_ap, wp_disp2, kD1_ap, kD2_ap, kD3_ap, kD4_ap, kD5_ap, kD6_ap, wp_chain, kCn1_ap, kCn2_ap, kCnS_ap, kCn3_ap, kCn4_ap, d_sum, d_max1, d_min1, tgn h0, tgn hs]
  refine wp_first_word hv h1 h12 _ hs fun w hw => ?_
  nofun
  refine wp_less_w hu (by omega) (hw.lwd hv).wd h0 (tupF _) _ fun s' hs' => ?_
  nofun
  exact k w _ hw hs'
theorem opf_rows : ∀ (w : List Int) (p : List Int × List Int), IsRow n p.1 → IsRow n p.2 → Wd n w → IsRow n (opf p w).1 ∧ IsRow n (opf p w).2
  | [], _, h1, h2, _ => ⟨h1, h2⟩
  | k :: w, p, h1, h2, hw => by
    have hk := hw k (by simp)
    show IsRow n (opf (if p.1.getD k.toNat 0 < p.1.getD (k.toNat + 1) 0 then (swp p.1 k.toNat, swp p.2 k.toNat) else p) w).1 ∧ IsRow n (opf (if p.1.getD k.toNat 0 < p.1.getD (k.toNat + 1) 0 then (swp p.1 k.toNat, swp p.2 k.toNat) else p) w).2
    by_cases c : p.1.getD k.toNat 0 < p.1.getD (k.toNat + 1) 0
    · rw [if_pos c]
      exact opf_rows w _ (h1.swp (by omega)) (h2.swp (by omega)) fun j hj => hw j (by simp [hj])
    · rw [if_neg c]
      exact opf_rows w _ h1 h2 fun j hj => hw j (by simp [hj])
theorem wp_behind (hu : IsRow n u) (hv : IsRow n v) (h1 : 1 ≤ n) (hn : n ≤ 1000) (h0 : TupS s0 (zs u)) (hs : TupS s (zs v)) (K : Sl → Prop) (k : K (.ft (zs (bh u v)))) : WP (w__law_behind [s0, s]) K := by
  rw [w__law_behind_def, wp_run]
  unfold m__law_behind
  have hl := hv.len
  have hl2 := hu.len
  simp (disch := (first | omega | (simp only [List.length_set, List.length_map, List.length_append, List.length_take, List.length_drop, rng_len]; omega))) only [wp_ret, wp_bad, wp_ok, wp_if, kR_ap, slP_imm, slP_lst, slP_ft, kE_ap, kI_ap, k1_ap, k2b_ap, k2_ap, k2s_ap, k3c_ap, k3b_ap, k3_ap, kOI_ap, kT_ap, kAnd_ap, kOr_ap, kNot_ap, kVA_ap, kVO_ap, kVN_ap, kIf_ap, kC2_ap, kC1_ap, kTup_ap, kLst_ap, kA_ap, kG2_ap, kG1_ap, kCall_ap, kSeq_nx, kSeq_rt, kSeq_bk, kSeq_ct, kSet_ap, kDrop_ap, kRt_ap, kNxE_ap, kAsg_ap, kFor_ap, kTurn_nx, kTurn_ct, kTurn_bk, kTurn_rt, kBody_ap, kWh_ap, kPar2_ap, kPar1_ap, kP3c_ap, kP3b_ap, kP3a_ap, kRg1_ap, kRg2b_ap, kRg2_ap, kSq_list, kSq_tuple, kEnum_ap, kZip2_ll, kZip1_ap, kLcE_ap, kLc_ap, kLt3_ap, kLt2_ap, kLt1_ap, kRun_nx, kRun_rt, vP_imm, vP_lst, vP_ft, wp_var, pP_imm, pP_lst, pP_ft, wp_peek, moP_ap, wp_move, lkP_imm, lkP_ft, wp_look, gsP_src, gsP_fT, gsP_ft, gsP_imm, wp_gSrc, gnP_imm, gnP_ft, gnP_lst, wp_gNm, gfP_dT, gfP_fT, wp_gFrz, kGt_dT, kGt_imm, kGt_ft, wp_gTmp, wp_C, wp_E, wp_I, wp_1, wp_2, wp_2s, wp_3, wp_oN, wp_oS, wp_T, wp_and, wp_or, wp_not, wp_yes, wp_mIf, wp_vAnd, wp_vOr, wp_vNot, wp_aNil, wp_aCons, wp_tup, wp_lst, wp_A, wp_tupRg, wp_lstRg, wp_gNil, wp_gCons, wp_call, wp_lc, wp_wSeq, wp_wEnum, wp_wZip, wp_wRange1, wp_wRange2, wp_sNx, wp_sBk, wp_sCt, wp_sRetN, wp_seq, wp_set, wp_drop, wp_sRet, wp_sIf, wp_asg, wp_tgName, wp_tgTup, wp_tgAll0, wp_tgAll1, wp_tgN1, wp_tgNs, wp_tgG, wp_tgS0, kTgS_ap, wp_tgS1, wp_sFor, wp_par, wp_par3, wp_run, kIx_ap, isLst_ap, wp_tgIx, kAp_ap, wp_append, kPo_ap, wp_popAt, d_add, d_addb, d_addT, d_addL, d_sub, d_mul, d_mulL, d_fdiv, d_mod, d_pow, d_neg, d_lt, d_le, d_gt, d_ge, d_eq, d_ne, d_eqT, d_neT, d_eqL, d_neL, d_eqT0, d_neT0, d_eqL0, d_neL0, d_eqS, d_neS, d_isN, d_isntN, d_lenT, d_lenL, d_abs, d_int, d_intb, d_tupT, d_tupL, tupP_ft, d_listT, d_listL, d_max, d_min, d_ixT, d_ixL, d_slT, d_slL, cut_to, cut_from, d_revL, d_revT, d_repr, wp_pk, wp_tup0, wp_wipe, wp_wipe0, wp_rest, wp_rest0, ix_zs, ap_zs, ap_z0, po_zs, at0_nat, at0_nat1, toN1, toN2, Int.toNat_natCast, rangeD_rng, rangeD_sub, d_sort, d_sortT, wp_dnewT, kDg2_ap, kDg1_ap, dkO_dT, dkO_fT, isSome_some, wp_dget2, kDp2_ap, kDp1_ap, wp_dput, kDE_lst, kDE_imm, kDE_ft, wp_dictE, List.getElem?_cons_zero, List.getElem?_cons_succ, List.set_cons_zero, List.set_cons_succ, List.length_cons, List.length_nil, List.length_map, List.map_cons, List.map_nil, List.replicate_succ, List.replicate_zero, List.nil_append, List.cons_append, Nat.reduceSub, Nat.reduceAdd, Nat.reduceLeDiff, Nat.reduceLT, Nat.zero_add, Nat.sub_self, decide_eq_true_eq, Bool.not_eq_true', decide_eq_false_iff_not, ite_true, ite_false, if_true, if_false, reduceIte, Bool.true_eq_false, Bool.false_eq_true, and_true, true_and, true_implies, not_true_eq_false, not_false_eq_true, Int.reduceLE, Int.reduceLT, gt_iff_lt, wp_indexT, itP_ft, itP_it, kIt_ap, kIr_ap, wp_disp2, kD1_ap, kD2_ap, kD3_ap, kD4_ap, kD5_ap, kD6_ap, wp_chain, kCn1_ap, kCn2_ap, kCnS_ap, kCn3_ap, kCn4_ap, d_sum, d_max1, d_min1, tv hs]
  refine ⟨by omega, lc_pure PyData.int (fun _ => true) (fun x => .int (at0 u x)) _ _ _ (fun x hx => ?_) ?_⟩
  · have := hv.mem.mp hx
    simp (disch := (first | omega | (simp only [List.length_set, List.length_map, List.length_append, List.length_take, List.length_drop, rng_len]; omega))) only [wp_ret, wp_bad, wp_ok, wp_if, kR_ap, slP_imm, slP_lst, slP_ft, kE_ap, kI_ap, k1_ap, k2b_ap, k2_ap, k2s_ap, k3c_ap, k3b_ap, k3_ap, kOI_ap, kT_ap, kAnd_ap, kOr_ap, kNot_ap, kVA_ap, kVO_ap, kVN_ap, kIf_ap, kC2_ap, kC1_ap, kTup_ap, kLst_ap, kA_ap, kG2_ap, kG1_ap, kCall_ap, kSeq_nx, kSeq_rt, kSeq_bk, kSeq_ct, kSet_ap, kDrop_ap, kRt_ap, kNxE_ap, kAsg_ap, kFor_ap, kTurn_nx, kTurn_ct, kTurn_bk, kTurn_rt, kBody_ap, kWh_ap, kPar2_ap, kPar1_ap, kP3c_ap, kP3b_ap, kP3a_ap, kRg1_ap, kRg2b_ap, kRg2_ap, kSq_list, kSq_tuple, kEnum_ap, kZip2_ll, kZip1_ap, kLcE_ap, kLc_ap, kLt3_ap, kLt2_ap, kLt1_ap, kRun_nx, kRun_rt, vP_imm, vP_lst, vP_ft, wp_var, pP_imm, pP_lst, pP_ft, wp_peek, moP_ap, wp_move, lkP_imm, lkP_ft, wp_look, gsP_src, gsP_fT, gsP_ft, gsP_imm, wp_gSrc, gnP_imm, gnP_ft, gnP_lst, wp_gNm, gfP_dT, gfP_fT, wp_gFrz, kGt_dT, kGt_imm, kGt_ft, wp_gTmp, wp_C, wp_E, wp_I, wp_1, wp_2, wp_2s, wp_3, wp_oN, wp_oS, wp_T, wp_and, wp_or, wp_not, wp_yes, wp_mIf, wp_vAnd, wp_vOr, wp_vNot, wp_aNil, wp_aCons, wp_tup, wp_lst, wp_A, wp_tupRg, wp_lstRg, wp_gNil, wp_gCons, wp_call, wp_lc, wp_wSeq, wp_wEnum, wp_wZip, wp_wRange1, wp_wRange2, wp_sNx, wp_sBk, wp_sCt, wp_sRetN, wp_seq, wp_set, wp_drop, wp_sRet, wp_sIf, wp_asg, wp_tgName, wp_tgTup, wp_tgAll0, wp_tgAll1, wp_tgN1, wp_tgNs, wp_tgG, wp_tgS0, kTgS_ap, wp_tgS1, wp_sFor, wp_par, wp_par3, wp_run, kIx_ap, isLst_ap, wp_tgIx, kAp_ap, wp_append, kPo_ap, wp_popAt, d_add, d_addb, d_addT, d_addL, d_sub, d_mul, d_mulL, d_fdiv, d_mod, d_pow, d_neg, d_lt, d_le, d_gt, d_ge, d_eq, d_ne, d_eqT, d_neT, d_eqL, d_neL, d_eqT0, d_neT0, d_eqL0, d_neL0, d_eqS, d_neS, d_isN, d_isntN, d_lenT, d_lenL, d_abs, d_int, d_intb, d_tupT, d_tupL, tupP_ft, d_listT, d_listL, d_max, d_min, d_ixT, d_ixL, d_slT, d_slL, cut_to, cut_from, d_revL, d_revT, d_repr, wp_pk, wp_tup0, wp_wipe, wp_wipe0, wp_rest, wp_rest0, ix_zs, ap_zs, ap_z0, po_zs, at0_nat, at0_nat1, toN1, toN2, Int.toNat_natCast, rangeD_rng, rangeD_sub, d_sort, d_sortT, wp_dnewT, kDg2_ap, kDg1_ap, dkO_dT, dkO_fT, isSome_some, wp_dget2, kDp2_ap, kDp1_ap, wp_dput, kDE_lst, kDE_imm, kDE_ft, wp_dictE, List.getElem?_cons_zero, List.getElem?_cons_succ, List.set_cons_zero, List.set_cons_succ, List.length_cons, List.length_nil, List.length_map, List.map_cons, List.map_nil, List.replicate_succ, List.replicate_zero, List.nil_append, List.cons_append, Nat.reduceSub, Nat.reduceAdd, Nat.reduceLeDiff, Nat.reduceLT, Nat.zero_add, Nat.sub_self, decide_eq_true_eq, Bool.not_eq_true', decide_eq_false_iff_not, ite_true, ite_false, if_true, if_false, reduceIte, Bool.true_eq_false, Bool.false_eq_true, and_true, true_and, true_implies, not_true_eq_false, not_false_eq_true, Int.reduceLE, Int.reduceLT, gt_iff_lt, wp_indexT, itP_ft, itP_it, kIt_ap, kIr_ap, wp_disp2, kD1_ap, kD2_ap, kD3_ap, kD4_ap, kD5_ap, kD6_ap, wp_chain, kCn1_ap, kCn2_ap, kCnS_ap, kCn3_ap, kCn4_ap, d_sum, d_max1, d_min1, tp h0]
  · have e : (v.filter fun _ => true).map (fun x => PyData.int (at0 u x)) = (bh u v).map PyData.int := by
      rw [List.filter_eq_self.mpr fun _ _ => rfl]
      unfold bh
      rw [List.map_map]
      rfl
    rw [e]
    nofun
    exact k
theorem wp_below (hb : Bel u v) (hu : IsRow n u) (hv : IsRow n v) (h1 : 1 ≤ n) (h12 : n ≤ 12) (h0 : TupS s0 (zs u)) (hs : TupS s (zs v)) (K : Sl → Prop) (k : K (.imm (.bool true))) : WP (w__law_is_below [s0, s]) K := by
  rw [w__law_is_below_def, wp_run]
  unfold m__law_is_below
  have hl := hv.len
  have hl2 := hu.len
  simp (disch := (first | omega | (simp only [List.length_set, List.length_map, List.length_append, List.length_take, List.length_drop, rng_len]; omega))) only [wp_ret, wp_bad, wp_ok, wp_if, kR_ap, slP_imm, slP_lst, slP_ft, kE_ap, kI_ap, k1_ap, k2b_ap, k2_ap, k2s_ap, k3c_ap, k3b_ap, k3_ap, kOI_ap, kT_ap, kAnd_ap, kOr_ap, kNot_ap, kVA_ap, kVO_ap, kVN_ap, kIf_ap, kC2_ap, kC1_ap, kTup_ap, kLst_ap, kA_ap, kG2_ap, kG1_ap, kCall_ap, kSeq_nx, kSeq_rt, kSeq_bk, kSeq_ct, kSet_ap, kDrop_ap, kRt_ap, kNxE_ap, kAsg_ap, kFor_ap, kTurn_nx, kTurn_ct, kTurn_bk, kTurn_rt, kBody_ap, kWh_ap, kPar2_ap, kPar1_ap, kP3c_ap, kP3b_ap, kP3a_ap, kRg1_ap, kRg2b_ap, kRg2_ap, kSq_list, kSq_tuple, kEnum_ap, kZip2_ll, kZip1_ap, kLcE_ap, kLc_ap, kLt3_ap, kLt2_ap, kLt1_ap, kRun_nx, kRun_rt, vP_imm, vP_lst, vP_ft, wp_var, pP_imm, pP_lst, pP_ft, wp_peek, moP_ap, wp_move, lkP_imm, lkP_ft, wp_look, gsP_src, gsP_fT, gsP_ft, gsP_imm, wp_gSrc, gnP_imm, gnP_ft, gnP_lst, wp_gNm, gfP_dT, gfP_fT, wp_gFrz, kGt_dT, kGt_imm, kGt_ft, wp_gTmp, wp_C, wp_E, wp_I, wp_1, wp_2, wp_2s, wp_3, wp_oN, wp_oS, wp_T, wp_and, wp_or, wp_not, wp_yes, wp_mIf, wp_vAnd, wp_vOr, wp_vNot, wp_aNil, wp_aCons, wp_tup, wp_lst, wp_A, wp_tupRg, wp_lstRg, wp_gNil, wp_gCons, wp_call, wp_lc, wp_wSeq, wp_wEnum, wp_wZip, wp_wRange1, wp_wRange2, wp_sNx, wp_sBk, wp_sCt, wp_sRetN, wp_seq, wp_set, wp_drop, wp_sRet, wp_sIf, wp_asg, wp_tgName, wp_tgTup, wp_tgAll0, wp_tgAll1, wp_tgN1, wp_tgNs, wp_tgG, wp_tgS0, kTgS_ap, wp_tgS1, wp_sFor, wp_par, wp_par3, wp_run, kIx_ap, isLst_ap, wp_tgIx, kAp_ap, wp_append, kPo_ap, wp_popAt, d_add, d_addb, d_addT, d_addL, d_sub, d_mul, d_mulL, d_fdiv, d_mod, d_pow, d_neg, d_lt, d_le, d_gt, d_ge, d_eq, d_ne, d_eqT, d_neT, d_eqL, d_neL, d_eqT0, d_neT0, d_eqL0, d_neL0, d_eqS, d_neS, d_isN, d_isntN, d_lenT, d_lenL, d_abs, d_int, d_intb, d_tupT, d_tupL, tupP_ft, d_listT, d_listL, d_max, d_min, d_ixT, d_ixL, d_slT, d_slL, cut_to, cut_from, d_revL, d_revT, d_repr, wp_pk, wp_tup0, wp_wipe, wp_wipe0, wp_rest, wp_rest0, ix_zs, ap_zs, ap_z0, po_zs, at0_nat, at0_nat1, toN1, toN2, Int.toNat_natCast, rangeD_rng, rangeD_sub, d_sort, d_sortT, wp_dnewT, kDg2_ap, kDg1_ap, dkO_dT, dkO_fT, isSome_some, wp_dget2, kDp2_ap, kDp1_ap, wp_dput, kDE_lst, kDE_imm, kDE_ft, wp_dictE, List.getElem?_cons_zero, List.getElem?_cons_succ, List.set_cons_zero, List.set_cons_succ, List.length_cons, List.length_nil, List.length_map, List.map_cons, List.map_nil, List.replicate_succ, List.replicate_zero, List.nil_append, List.cons_append, Nat.reduceSub, Nat.reduceAdd, Nat.reduceLeDiff, Nat.reduceLT, Nat.zero_add, Nat.sub_self, decide_eq_true_eq, Bool.not_eq_true', decide_eq_false_iff_not, ite_true, ite_false, if_true, if_false, reduceIte, Bool.true_eq_false, Bool.false_eq_true, and_true, true_and, true_implies, not_true_eq_false, not_false_eq_true, Int.reduceLE, Int.reduceLT, gt_iff_lt, wp_indexT, itP_ft, itP_it, kIt_ap, kIr_ap, wp_disp2, kD1_ap, kD2_ap, kD3_ap, kD4_ap, kD5_ap, kD6_ap, wp_chain, kCn1_ap, kCn2_ap, kCnS_ap, kCn3_ap, kCn4_ap, d_sum, d_max1, d_min1, tp h0, tp hs]
  have er : rangeD 1 (u.length : Int) = (List.range (n - 1)).map fun i => PyData.int (1 + (i : Nat)) := by
    unfold rangeD
    rw [hl2, show ((n : Int) - 1).toNat = n - 1 by omega]
  rw [er]
  refine ⟨by omega, ?_⟩
  refine for_inv (fun i : Nat => PyData.int (1 + (i : Nat))) (fun d env => ∃ e2 e3 e4, env = [some s0, some s, e2, e3, e4]) (List.range (n - 1)) [] _ ⟨_, _, _, rfl⟩ ?_ ?_
  · rintro d i rest env e ⟨e2, e3, e4, rfl⟩
    simp (disch := (first | omega | (simp only [List.length_set, List.length_map, List.length_append, List.length_take, List.length_drop, rng_len]; omega))) only [wp_ret, wp_bad, wp_ok, wp_if, kR_ap, slP_imm, slP_lst, slP_ft, kE_ap, kI_ap, k1_ap, k2b_ap, k2_ap, k2s_ap, k3c_ap, k3b_ap, k3_ap, kOI_ap, kT_ap, kAnd_ap, kOr_ap, kNot_ap, kVA_ap, kVO_ap, kVN_ap, kIf_ap, kC2_ap, kC1_ap, kTup_ap, kLst_ap, kA_ap, kG2_ap, kG1_ap, kCall_ap, kSeq_nx, kSeq_rt, kSeq_bk, kSeq_ct, kSet_ap, kDrop_ap, kRt_ap, kNxE_ap, kAsg_ap, kFor_ap, kTurn_nx, kTurn_ct, kTurn_bk, kTurn_rt, kBody_ap, kWh_ap, kPar2_ap, kPar1_ap, kP3c_ap, kP3b_ap, kP3a_ap, kRg1_ap, kRg2b_ap, kRg2_ap, kSq_list, kSq_tuple, kEnum_ap, kZip2_ll, kZip1_ap, kLcE_ap, kLc_ap, kLt3_ap, kLt2_ap, kLt1_ap, kRun_nx, kRun_rt, vP_imm, vP_lst, vP_ft, wp_var, pP_imm, pP_lst, pP_ft, wp_peek, moP_ap, wp_move, lkP_imm, lkP_ft, wp_look, gsP_src, gsP_fT, gsP_ft, gsP_imm, wp_gSrc, gnP_imm, gnP_ft, gnP_lst, wp_gNm, gfP_dT, gfP_fT, wp_gFrz, kGt_dT, kGt_imm, kGt_ft, wp_gTmp, wp_C, wp_E, wp_I, wp_1, wp_2, wp_2s, wp_3, wp_oN, wp_oS, wp_T, wp_and, wp_or, wp_not, wp_yes, wp_mIf, wp_vAnd, wp_vOr, wp_vNot, wp_aNil, wp_aCons, wp_tup, wp_lst, wp_A, wp_tupRg, wp_lstRg, wp_gNil, wp_gCons, wp_call, wp_lc, wp_wSeq, wp_wEnum, wp_wZip, wp_wRange1, wp_wRange2, wp_sNx, wp_sBk, wp_sCt, wp_sRetN, wp_seq, wp_set, wp_drop, wp_sRet, wp_sIf, wp_asg, wp_tgName, wp_tgTup, wp_tgAll0, wp_tgAll1, wp_tgN1, wp_tgNs, wp_tgG, wp_tgS0, kTgS_ap, wp_tgS1, wp_sFor, wp_par, wp_par3, wp_run, kIx_ap, isLst_ap, wp_tgIx, kAp_ap, wp_append, kPo_ap, wp_popAt, d_add, d_addb, d_addT, d_addL, d_sub, d_mul, d_mulL, d_fdiv, d_mod, d_pow, d_neg, d_lt, d_le, d_gt, d_ge, d_eq, d_ne, d_eqT, d_neT, d_eqL, d_neL, d_eqT0, d_neT0, d_eqL0, d_neL0, d_eqS, d_neS, d_isN, d_isntN, d_lenT, d_lenL, d_abs, d_int, d_intb, d_tupT, d_tupL, tupP_ft, d_listT, d_listL, d_max, d_min, d_ixT, d_ixL, d_slT, d_slL, cut_to, cut_from, d_revL, d_revT, d_repr, wp_pk, wp_tup0, wp_wipe, wp_wipe0, wp_rest, wp_rest0, ix_zs, ap_zs, ap_z0, po_zs, at0_nat, at0_nat1, toN1, toN2, Int.toNat_natCast, rangeD_rng, rangeD_sub, d_sort, d_sortT, wp_dnewT, kDg2_ap, kDg1_ap, dkO_dT, dkO_fT, isSome_some, wp_dget2, kDp2_ap, kDp1_ap, wp_dput, kDE_lst, kDE_imm, kDE_ft, wp_dictE, List.getElem?_cons_zero, List.getElem?_cons_succ, List.set_cons_zero, List.set_cons_succ, List.length_cons, List.length_nil, List.length_map, List.map_cons, List.map_nil, List.replicate_succ, List.replicate_zero, List.nil_append, List.cons_append, Nat.reduceSub, Nat.reduceAdd, Nat.reduceLeDiff, Nat.reduceLT, Nat.zero_add, Nat.sub_self, decide_eq_true_eq, Bool.not_eq_true', decide_eq_false_iff_not, ite_true, ite_false, if_true, if_false, reduceIte, Bool.true_eq_false, Bool.false_eq_true, and_true, true_and, true_implies, not_true_eq_false, not_false_eq_true, Int.reduceLE, Int.reduceLT, gt_iff_lt, wp_indexT, itP_ft, itP_it, kIt_ap, kIr_ap, wp_disp2, kD1_ap, kD2_ap, kD3_ap, kD4_ap, kD5_ap, kD6_ap, wp_chain, kCn1_ap, kCn2_ap, kCnS_ap, kCn3_ap, kCn4_ap, d_sum, d_max1, d_min1, tp h0, tp hs, ← List.map_take]
    refine ⟨by rw [List.length_take]; omega, by rw [List.length_take]; omega, ?_⟩
    rw [zip_zs]
    have hle := bel_sorted hb (by omega) (1 + (i : Int)).toNat
    refine for_inv (fun p : Int × Int => PyData.tuple [.int p.1, .int p.2]) (fun d env => ∃ e3 e4, env = [some s0, some s, some (.imm (.int (1 + (i : Nat)))), e3, e4]) _ [] _ ⟨_, _, rfl⟩ ?_ ?_
    · rintro d p rest env e ⟨e3, e4, rfl⟩
      have := hle p (by rw [List.nil_append] at e; rw [e]; simp)
      nofun
      rw [if_neg (by omega)]
      exact ⟨_, _, rfl⟩
    · rintro env ⟨e3, e4, rfl⟩
      nofun
      exact ⟨_, _, _, rfl⟩
  · rintro env ⟨e2, e3, e4, rfl⟩
    nofun
    exact k
end
end T

set_option Elab.async false
set_option linter.all false
set_option autoImplicit false
set_option maxRecDepth 100000
namespace T
open PySem PySem.Spec L2 PV
local macro_rules | `(tactic| nofun) => `(tactic| simp (disch := (first | omega | (simp only [List.length_set, List.length_map, List.length_append, List.length_take, List.length_drop, rng_len]; omega))) only [wp_ret, wp_bad, wp_ok, wp_if, kR_ap, slP_imm, slP_lst, slP_ft, kE_ap, kI_ap, k1_ap, k2b_ap, k2_ap, k2s_ap, k3c_ap, k3b_ap, k3_ap, kOI_ap, kT_ap, kAnd_ap, kOr_ap, kNot_ap, kVA_ap, kVO_ap, kVN_ap, kIf_ap, kC2_ap, kC1_ap, kTup_ap, kLst_ap, kA_ap, kG2_ap, kG1_ap, kCall_ap, kSeq_nx, kSeq_rt, kSeq_bk, kSeq_ct, kSet_ap, kDrop_ap, kRt_ap, kNxE_ap, kAsg_ap, kFor_ap, kTurn_nx, kTurn_ct, kTurn_bk, kTurn_rt, kBody_ap, kWh_ap, kPar2_ap, kPar1_ap, kP3c_ap, kP3b_ap, kP3a_ap, kRg1_ap, kRg2b_ap, kRg2_ap, kSq_list, kSq_tuple, kEnum_ap, kZip2_ll, kZip1_ap, kLcE_ap, kLc_ap, kLt3_ap, kLt2_ap, kLt1_ap, kRun_nx, kRun_rt, vP_imm, vP_lst, vP_ft, wp_var, pP_imm, pP_lst, pP_ft, wp_peek, moP_ap, wp_move, lkP_imm, lkP_ft, wp_look, gsP_src, gsP_fT, gsP_ft, gsP_imm, wp_gSrc, gnP_imm, gnP_ft, gnP_lst, wp_gNm, gfP_dT, gfP_fT, wp_gFrz, kGt_dT, kGt_imm, kGt_ft, wp_gTmp, wp_C, wp_E, wp_I, wp_1, wp_2, wp_2s, wp_3, wp_oN, wp_oS, wp_T, wp_and, wp_or, wp_not, wp_yes, wp_mIf, wp_vAnd, wp_vOr, wp_vNot, wp_aNil, wp_aCons, wp_tup, wp_lst, wp_A, wp_tupRg, wp_lstRg, wp_gNil, wp_gCons, wp_call, wp_lc, wp_wSeq, wp_wEnum, wp_wZip, wp_wRange1, wp_wRange2, wp_sNx, wp_sBk, wp_sCt, wp_sRetN, wp_seq, wp_set, wp_drop, wp_sRet, wp_sIf, wp_asg, wp_tgName, wp_tgTup, wp_tgAll0, wp_tgAll1, wp_tgN1, wp_tgNs, wp_tgG, wp_tgS0, kTgS_ap, wp_tgS1, wp_sFor, wp_par, wp_par3, wp_run, kIx_ap, isLst_ap, wp_tgIx, kAp_ap, wp_append, kPo_ap, wp_popAt, d_add, d_addb, d_addT, d_addL, d_sub, d_mul, d_mulL, d_fdiv, d_mod, d_pow, d_neg, d_lt, d_le, d_gt, d_ge, d_eq, d_ne, d_eqT, d_neT, d_eqL, d_neL, d_eqT0, d_neT0, d_eqL0, d_neL0, d_eqS, d_neS, d_isN, d_isntN, d_lenT, d_lenL, d_abs, d_int, d_intb, d_tupT, d_tupL, tupP_ft, d_listT, d_listL, d_max, d_min, d_ixT, d_ixL, d_slT, d_slL, cut_to, cut_from, d_revL, d_revT, d_repr, wp_pk, wp_tup0, wp_wipe, wp_wipe0, wp_rest, wp_rest0, ix_zs, ap_zs, ap_z0, po_zs, at0_nat, at0_nat1, toN1, toN2, Int.toNat_natCast, rangeD_rng, rangeD_sub, d_sort, d_sortT, wp_dnewT, kDg2_ap, kDg1_ap, dkO_dT, dkO_fT, isSome_some, wp_dget2, kDp2_ap, kDp1_ap, wp_dput, kDE_lst, kDE_imm, kDE_ft, wp_dictE, List.getElem?_cons_zero, List.getElem?_cons_succ, List.set_cons_zero, List.set_cons_succ, List.length_cons, List.length_nil, List.length_map, List.map_cons, List.map_nil, List.replicate_succ, List.replicate_zero, List.nil_append, List.cons_append, Nat.reduceSub, Nat.reduceAdd, Nat.reduceLeDiff, Nat.reduceLT, Nat.zero_add, Nat.sub_self, decide_eq_true_eq, Bool.not_eq_true', decide_eq_false_iff_not, ite_true, ite_false, if_true, if_false, reduceIte, Bool.true_eq_false, Bool.false_eq_true, and_true, true_and, true_implies, not_true_eq_false, not_false_eq_true, Int.reduceLE, Int.reduceLT, gt_iff_lt, wp_indexT, itP_ft, itP_it, kIt_ap, kIr_ap, wp_disp2, kD1_ap, kD2_ap, kD3_ap, kD4_ap, kD5_ap, kD6_ap, wp_chain, kCn1_ap, kCn2_ap, kCnS_ap, kCn3_ap, kCn4_ap, d_sum, d_max1, d_min1])
/-! ### lying below, both ways -/
theorem asc_cg : ∀ (a b : List Int), a.length = b.length → (∀ p ∈ a.zip b, p.1 ≤ p.2) → ∀ j, cg a j ≤ cg b j
  | [], [], _, _, _ => Nat.le_refl _
  | [], _ :: _, h, _, _ => by simp at h
  | _ :: _, [], h, _, _ => by simp at h
  | x :: a, y :: b, hl, h, j => by
    have h0 : x ≤ y := h (x, y) (by simp)
    have ih := asc_cg a b (by simpa using hl) (fun p hp => h p (by rw [List.zip_cons_cons]; exact List.mem_cons_of_mem _ hp)) j
    rw [cg_cons, cg_cons]
    by_cases c : j ≤ x
    · rw [if_pos c, if_pos (by omega)]; omega
    · rw [if_neg c]; omega
theorem bel_iff {n : Nat} {u v : List Int} (hu : IsRow n u) (hv : IsRow n v) : Bel u v ↔ ∀ i, i < n - 1 → ∀ p ∈ (sortZ (u.take (1 + i))).zip (sortZ (v.take (1 + i))), p.1 ≤ p.2 := by
  have hl : u.length = v.length := by rw [hu.len, hv.len]
  constructor
  · intro h i _
    exact bel_sorted h hl _
  · intro h i j
    by_cases c0 : i = 0
    · subst c0; exact Nat.le_refl _
    · by_cases c : i < n
      · have := h (i - 1) (by omega)
        rw [show 1 + (i - 1) = i by omega] at this
        have p1 := sortZ_perm (u.take i)
        have p2 := sortZ_perm (v.take i)
        rw [← cg_perm p1 j, ← cg_perm p2 j]
        exact asc_cg _ _ (by rw [p1.length_eq, p2.length_eq, List.length_take, List.length_take, hl]) this j
      · rw [List.take_of_length_le (by rw [hu.len]; omega), List.take_of_length_le (by rw [hv.len]; omega)]
        exact Nat.le_of_eq (cg_perm (hu.perm.trans hv.perm.symm) j)
section
variable {n : Nat} {u v w : List Int} {s s0 : Sl}
theorem wp_below2 (hu : IsRow n u) (hv : IsRow n v) (h1 : 1 ≤ n) (h12 : n ≤ 12) (h0 : TupS s0 (zs u)) (hs : TupS s (zs v)) (K : Sl → Prop) (kt : Bel u v → K (.imm (.bool true))) (kf : ¬ Bel u v → K (.imm (.bool false))) : WP (w__law_is_below [s0, s]) K := by
  rw [w__law_is_below_def, wp_run]
  unfold m__law_is_below
  have hl := hv.len
  have hl2 := hu.len
  simp (disch := (first | omega | (simp only [List.length_set, List.length_map, List.length_append, List.length_take, List.length_drop, rng_len]; omega))) only [wp_ret, wp_bad, wp_ok, wp_if, kR_ap, slP_imm, slP_lst, slP_ft, kE_ap, kI_ap, k1_ap, k2b_ap, k2_ap, k2s_ap, k3c_ap, k3b_ap, k3_ap, kOI_ap, kT_ap, kAnd_ap, kOr_ap, kNot_ap, kVA_ap, kVO_ap, kVN_ap, kIf_ap, kC2_ap, kC1_ap, kTup_ap, kLst_ap, kA_ap, kG2_ap, kG1_ap, kCall_ap, kSeq_nx, kSeq_rt, kSeq_bk, kSeq_ct, kSet_ap, kDrop_ap, kRt_ap, kNxE_ap, kAsg_ap, kFor_ap, kTurn_nx, kTurn_ct, kTurn_bk, kTurn_rt, kBody_ap, kWh_ap, kPar2_ap, kPar1_ap, kP3c_ap, kP3b_ap, kP3a_ap, kRg1_ap, kRg2b_ap, kRg2_ap, kSq_list, kSq_tuple, kEnum_ap, kZip2_ll, kZip1_ap, kLcE_ap, kLc_ap, kLt3_ap, kLt2_ap, kLt1_ap, kRun_nx, kRun_rt, vP_imm, vP_lst, vP_ft, wp_var, pP_imm, pP_lst, pP_ft, wp_peek, moP_ap, wp_move, lkP_imm, lkP_ft, wp_look, gsP_src, gsP_fT, gsP_ft, gsP_imm, wp_gSrc, gnP_imm, gnP_ft, gnP_lst, wp_gNm, gfP_dT, gfP_fT, wp_gFrz, kGt_dT, kGt_imm, kGt_ft, wp_gTmp, wp_C, wp_E, wp_I, wp_1, wp_2, wp_2s, wp_3, wp_oN, wp_oS, wp_T, wp_and, wp_or, wp_not, wp_yes, wp_mIf, wp_vAnd, wp_vOr, wp_vNot, wp_aNil, wp_aCons, wp_tup, wp_lst, wp_A, wp_tupRg, wp_lstRg, wp_gNil, wp_gCons, wp_call, wp_lc, wp_wSeq, wp_wEnum, wp_wZip, wp_wRange1, wp_wRange2, wp_sNx, wp_sBk, wp_sCt, wp_sRetN, wp_seq, wp_set, wp_drop, wp_sRet, wp_sIf, wp_asg, wp_tgName, wp_tgTup, wp_tgAll0, wp_tgAll1, wp_tgN1, wp_tgNs, wp_tgG, wp_tgS0, kTgS_ap, wp_tgS1, wp_sFor, wp_par, wp_par3, wp_run, kIx_ap, isLst_ap, wp_tgIx, kAp_ap, wp_append, kPo_ap, wp_popAt, d_add, d_addb, d_addT, d_addL, d_sub, d_mul, d_mulL, d_fdiv, d_mod, d_pow, d_neg, d_lt, d_le, d_gt, d_ge, d_eq, d_ne, d_eqT, d_neT, d_eqL, d_neL, d_eqT0, d_neT0, d_eqL0, d_neL0, d_eqS, d_neS, d_isN, d_isntN, d_lenT, d_lenL, d_abs, d_int, d_intb, d_tupT, d_tupL, tupP_ft, d_listT, d_listL, d_max, d_min, d_ixT, d_ixL, d_slT, d_slL, cut_to, cut_from, d_revL, d_revT, d_repr, wp_pk, wp_tup0, wp_wipe, wp_wipe0, wp_rest, wp_rest0, ix_zs, ap_zs, ap_z0, po_zs, at0_nat, at0_nat1, toN1, toN2, Int.toNat_natCast, rangeD_rng, rangeD_sub, d_sort, d_sortT, wp_dnewT, kDg2_ap, kDg1_ap, dkO_dT, dkO_fT, isSome_some, wp_dget2, kDp2_ap, kDp1_ap, wp_dput, kDE_lst, kDE_imm, kDE_ft, wp_dictE, List.getElem?_cons_zero, List.getElem?_cons_succ, List.set_cons_zero, List.set_cons_succ, List.length_cons, List.length_nil, List.length_map, List.map_cons, List.map_nil, List.replicate_succ, List.replicate_zero, List.nil_append, List.cons_append, Nat.reduceSub, Nat.reduceAdd, Nat.reduceLeDiff, Nat.reduceLT, Nat.zero_add, Nat.sub_self, decide_eq_true_eq, Bool.not_eq_true', decide_eq_false_iff_not, ite_true, ite_false, if_true, if_false, reduceIte, Bool.true_eq_false, Bool.false_eq_true, and_true, true_and, true_implies, not_true_eq_false, not_false_eq_true, Int.reduceLE, Int.reduceLT, gt_iff_lt, wp_indexT, itP_ft, itP_it, kIt_ap, kIr_ap, wp_disp2, kD1_ap, kD2_ap, kD3_ap, kD4_ap, kD5_ap, kD6_ap, wp_chain, kCn1_ap, kCn2_ap, kCnS_ap, kCn3_ap, kCn4_ap, d_sum, d_max1, d_min1, tp h0, tp hs]
  have er : rangeD 1 (u.length : Int) = (List.range (n - 1)).map fun i => PyData.int (1 + (i : Nat)) := by
    unfold rangeD
    rw [hl2, show ((n : Int) - 1).toNat = n - 1 by omega]
  rw [er]
  refine ⟨by omega, ?_⟩
  refine for_inv (fun i : Nat => PyData.int (1 + (i : Nat))) (fun d env => (∃ e2 e3 e4, env = [some s0, some s, e2, e3, e4]) ∧ ∀ i ∈ d, ∀ p ∈ (sortZ (u.take (1 + i))).zip (sortZ (v.take (1 + i))), p.1 ≤ p.2) (List.range (n - 1)) [] _ ⟨⟨_, _, _, rfl⟩, fun i hi => by simp at hi⟩ ?_ ?_
  · rintro d i rest env e ⟨⟨e2, e3, e4, rfl⟩, hd⟩
    have hi : i < n - 1 := by
      have : i ∈ List.range (n - 1) := by rw [List.nil_append] at e; rw [e]; simp
      exact List.mem_range.mp this
    simp (disch := (first | omega | (simp only [List.length_set, List.length_map, List.length_append, List.length_take, List.length_drop, rng_len]; omega))) only [wp_ret, wp_bad, wp_ok, wp_if, kR_ap, slP_imm, slP_lst, slP_ft, kE_ap, kI_ap, k1_ap, k2b_ap, k2_ap, k2s_ap, k3c_ap, k3b_ap, k3_ap, kOI_ap, kT_ap, kAnd_ap, kOr_ap, kNot_ap, kVA_ap, kVO_ap, kVN_ap, kIf_ap, kC2_ap, kC1_ap, kTup_ap, kLst_ap, kA_ap, kG2_ap, kG1_ap, kCall_ap, kSeq_nx, kSeq_rt, kSeq_bk, kSeq_ct, kSet_ap, kDrop_ap, kRt_ap, kNxE_ap, kAsg_ap, kFor_ap, kTurn_nx, kTurn_ct, kTurn_bk, kTurn_rt, kBody_ap, kWh_ap, kPar2_ap, kPar1_ap, kP3c_ap, kP3b_ap, kP3a_ap, kRg1_ap, kRg2b_ap, kRg2_ap, kSq_list, kSq_tuple, kEnum_ap, kZip2_ll, kZip1_ap, kLcE_ap, kLc_ap, kLt3_ap, kLt2_ap, kLt1_ap, kRun_nx, kRun_rt, vP_imm, vP_lst, vP_ft, wp_var, pP_imm, pP_lst, pP_ft, wp_peek, moP_ap, wp_move, lkP_imm, lkP_ft, wp_look, gsP_src, gsP_fT, gsP_ft, gsP_imm, wp_gSrc, gnP_imm, gnP_ft, gnP_lst, wp_gNm, gfP_dT, gfP_fT, wp_gFrz, kGt_dT, kGt_imm, kGt_ft, wp_gTmp, wp_C, wp_E, wp_I, wp_1, wp_2, wp_2s, wp_3, wp_oN, wp_oS, wp_T, wp_and, wp_or, wp_not, wp_yes, wp_mIf, wp_vAnd, wp_vOr, wp_vNot, wp_aNil, wp_aCons, wp_tup, wp_lst, wp_A, wp_tupRg, wp_lstRg, wp_gNil, wp_gCons, wp_call, wp_lc, wp_wSeq, wp_wEnum, wp_wZip, wp_wRange1, wp_wRange2, wp_sNx, wp_sBk, wp_sCt, wp_sRetN, wp_seq, wp_set, wp_drop, wp_sRet, wp_sIf, wp_asg, wp_tgName, wp_tgTup, wp_tgAll0, wp_tgAll1, wp_tgN1, wp_tgNs, wp_tgG, wp_tgS0, kTgS_ap, wp_tgS1, wp_sFor, wp_par, wp_par3, wp_run, kIx_ap, isLst_ap, wp_tgIx, kAp_ap, wp_append, kPo_ap, wp_popAt, d_add, d_addb, d_addT, d_addL, d_sub, d_mul, d_mulL, d_fdiv, d_mod, d_pow, d_neg, d_lt, d_le, d_gt, d_ge, d_eq, d_ne, d_eqT, d_neT, d_eqL, d_neL, d_eqT0, d_neT0, d_eqL0, d_neL0, d_eqS, d_neS, d_isN, d_isntN, d_lenT, d_lenL, d_abs, d_int, d_intb, d_tupT, d_tupL, tupP_ft, d_listT, d_listL, d_max, d_min, d_ixT, d_ixL, d_slT, d_slL, cut_to, cut_from, d_revL, d_revT, d_repr, wp_pk, wp_tup0, wp_wipe, wp_wipe0, wp_rest, wp_rest0, ix_zs, ap_zs, ap_z0, po_zs, at0_nat, at0_nat1, toN1, toN2, Int.toNat_natCast, rangeD_rng, rangeD_sub, d_sort, d_sortT, wp_dnewT, kDg2_ap, kDg1_ap, dkO_dT, dkO_fT, isSome_some, wp_dget2, kDp2_ap, kDp1_ap, wp_dput, kDE_lst, kDE_imm, kDE_ft, wp_dictE, List.getElem?_cons_zero, List.getElem?_cons_succ, List.set_cons_zero, List.set_cons_succ, List.length_cons, List.length_nil, List.length_map, List.map_cons, List.map_nil, List.replicate_succ, List.replicate_zero, List.nil_append, List.cons_append, Nat.reduceSub, Nat.reduceAdd, Nat.reduceLeDiff, Nat.reduceLT, Nat.zero_add, Nat.sub_self, decide_eq_true_eq, Bool.not_eq_true', decide_eq_false_iff_not, ite_true, ite_false, if_true, if_false, reduceIte, Bool.true_eq_false, Bool.false_eq_true, and_true, true_and, true_implies, not_true_eq_false, not_false_eq_true, Int.reduceLE, Int.reduceLT, gt_iff_lt, wp_indexT, itP_ft, itP_it, kIt_ap, kIr_ap, wp_disp2, kD1_ap, kD2_ap, kD3_ap, kD4_ap, kD5_ap, kD6_ap, wp_chain, kCn1_ap, kCn2_ap, kCnS_ap, kCn3_ap, kCn4_ap, d_sum, d_max1, d_min1, tp h0, tp hs, ← List.map_take]
    refine ⟨by rw [List.length_take]; omega, by rw [List.length_take]; omega, ?_⟩
    rw [zip_zs, show (1 + (i : Int)).toNat = 1 + i by omega]
    refine for_inv (fun p : Int × Int => PyData.tuple [.int p.1, .int p.2]) (fun d2 env => (∃ e3 e4, env = [some s0, some s, some (.imm (.int (1 + (i : Nat)))), e3, e4]) ∧ ∀ p ∈ d2, p.1 ≤ p.2) _ [] _ ⟨⟨_, _, rfl⟩, fun p hp => by simp at hp⟩ ?_ ?_
    · rintro d2 p rest2 env e2 ⟨⟨e3, e4, rfl⟩, hd2⟩
      nofun
      by_cases c : p.2 < p.1
      · rw [if_pos c]
        refine kf fun hb => ?_
        have := (bel_iff hu hv).mp hb i hi p (by rw [List.nil_append] at e2; rw [e2]; simp)
        omega
      · rw [if_neg c]
        refine ⟨⟨_, _, rfl⟩, fun q hq => ?_⟩
        rcases List.mem_append.mp hq with hq | hq
        · exact hd2 q hq
        · rw [List.mem_singleton] at hq; subst hq; omega
    · rintro env ⟨⟨e3, e4, rfl⟩, hd2⟩
      nofun
      refine ⟨⟨_, _, _, rfl⟩, fun i' hi' => ?_⟩
      rcases List.mem_append.mp hi' with hi' | hi'
      · exact hd i' hi'
      · rw [List.mem_singleton] at hi'
        subst hi'
        rw [List.nil_append] at hd2
        exact hd2
  · rintro env ⟨⟨e2, e3, e4, rfl⟩, hd⟩
    nofun
    rw [List.nil_append] at hd
    exact kt ((bel_iff hu hv).mpr fun i hi => hd i (List.mem_range.mpr hi))
/-! ### lengths -/
def cntL (r : List Int) (k : Nat) : Int := ((((r.drop (k + 1)).filter fun x => decide (x < r.getD k 0)).length : Nat) : Int)
theorem sum_inv : ∀ r : List Int, ((List.range r.length).map (cntL r)).sum = (inv r : Int)
  | [] => rfl
  | x :: r => by
    rw [List.length_cons, List.range_succ_eq_map, List.map_cons, List.map_map, List.sum_cons]
    have e : cntL (x :: r) ∘ Nat.succ = cntL r := by
      funext k
      unfold cntL
      simp
    rw [e, sum_inv r]
    show _ = ((r.countP (fun y => decide (y < x)) + inv r : Nat) : Int)
    have e0 : cntL (x :: r) 0 = ((r.countP fun y => decide (y < x) : Nat) : Int) := by
      unfold cntL
      rw [List.countP_eq_length_filter]
      simp
    rw [e0]
    omega
theorem wp_length (hu : IsRow n u) (h1 : 1 ≤ n) (h12 : n ≤ 12) (h0 : TupS s0 (zs u)) (K : Sl → Prop) (k : K (.imm (.int (inv u : Nat)))) : WP (w__law_length [s0]) K := by
  rw [w__law_length_def, wp_run]
  unfold m__law_length
  have hl := hu.len
  simp (disch := (first | omega | (simp only [List.length_set, List.length_map, List.length_append, List.length_take, List.length_drop, rng_len]; omega))) only [wp_ret, wp_bad, wp_ok, wp_if, kR_ap, slP_imm, slP_lst, slP_ft, kE_ap, kI_ap, k1_ap, k2b_ap, k2_ap, k2s_ap, k3c_ap, k3b_ap, k3_ap, kOI_ap, kT_ap, kAnd_ap, kOr_ap, kNot_ap, kVA_ap, kVO_ap, kVN_ap, kIf_ap, kC2_ap, kC1_ap, kTup_ap, kLst_ap, kA_ap, kG2_ap, kG1_ap, kCall_ap, kSeq_nx, kSeq_rt, kSeq_bk, kSeq_ct, kSet_ap, kDrop_ap, kRt_ap, kNxE_ap, kAsg_ap, kFor_ap, kTurn_nx, kTurn_ct, kTurn_bk, kTurn_rt, kBody_ap, kWh_ap, kPar2_ap, kPar1_ap, kP3c_ap, kP3b_ap, kP3a_ap, kRg1_ap, kRg2b_ap, kRg2_ap, kSq_list, kSq_tuple, kEnum_ap, kZip2_ll, kZip1_ap, kLcE_ap, kLc_ap, kLt3_ap, kLt2_ap, kLt1_ap, kRun_nx, kRun_rt, vP_imm, vP_lst, vP_ft, wp_var, pP_imm, pP_lst, pP_ft, wp_peek, moP_ap, wp_move, lkP_imm, lkP_ft, wp_look, gsP_src, gsP_fT, gsP_ft, gsP_imm, wp_gSrc, gnP_imm, gnP_ft, gnP_lst, wp_gNm, gfP_dT, gfP_fT, wp_gFrz, kGt_dT, kGt_imm, kGt_ft, wp_gTmp, wp_C, wp_E, wp_I, wp_1, wp_2, wp_2s, wp_3, wp_oN, wp_oS, wp_T, wp_and, wp_or, wp_not, wp_yes, wp_mIf, wp_vAnd, wp_vOr, wp_vNot, wp_aNil, wp_aCons, wp_tup, wp_lst, wp_A, wp_tupRg, wp_lstRg, wp_gNil, wp_gCons, wp_call, wp_lc, wp_wSeq, wp_wEnum, wp_wZip, wp_wRange1, wp_wRange2, wp_sNx, wp_sBk, wp_sCt, wp_sRetN, wp_seq, wp_set, wp_drop, wp_sRet, wp_sIf, wp_asg, wp_tgName, wp_tgTup, wp_tgAll0, wp_tgAll1, wp_tgN1, wp_tgNs, wp_tgG, wp_tgS0, kTgS_ap, wp_tgS1, wp_sFor, wp_par, wp_par3, wp_run, kIx_ap, isLst_ap, wp_tgIx, kAp_ap, wp_append, kPo_ap, wp_popAt, d_add, d_addb, d_addT, d_addL, d_sub, d_mul, d_mulL, d_fdiv, d_mod, d_pow, d_neg, d_lt, d_le, d_gt, d_ge, d_eq, d_ne, d_eqT, d_neT, d_eqL, d_neL, d_eqT0, d_neT0, d_eqL0, d_neL0, d_eqS, d_neS, d_isN, d_isntN, d_lenT, d_lenL, d_abs, d_int, d_intb, d_tupT, d_tupL, tupP_ft, d_listT, d_listL, d_max, d_min, d_ixT, d_ixL, d_slT, d_slL, cut_to, cut_from, d_revL, d_revT, d_repr, wp_pk, wp_tup0, wp_wipe, wp_wipe0, wp_rest, wp_rest0, ix_zs, ap_zs, ap_z0, po_zs, at0_nat, at0_nat1, toN1, toN2, Int.toNat_natCast, rangeD_rng, rangeD_sub, d_sort, d_sortT, wp_dnewT, kDg2_ap, kDg1_ap, dkO_dT, dkO_fT, isSome_some, wp_dget2, kDp2_ap, kDp1_ap, wp_dput, kDE_lst, kDE_imm, kDE_ft, wp_dictE, List.getElem?_cons_zero, List.getElem?_cons_succ, List.set_cons_zero, List.set_cons_succ, List.length_cons, List.length_nil, List.length_map, List.map_cons, List.map_nil, List.replicate_succ, List.replicate_zero, List.nil_append, List.cons_append, Nat.reduceSub, Nat.reduceAdd, Nat.reduceLeDiff, Nat.reduceLT, Nat.zero_add, Nat.sub_self, decide_eq_true_eq, Bool.not_eq_true', decide_eq_false_iff_not, ite_true, ite_false, if_true, if_false, reduceIte, Bool.true_eq_false, Bool.false_eq_true, and_true, true_and, true_implies, not_true_eq_false, not_false_eq_true, Int.reduceLE, Int.reduceLT, gt_iff_lt, wp_indexT, itP_ft, itP_it, kIt_ap, kIr_ap, wp_disp2, kD1_ap, kD2_ap, kD3_ap, kD4_ap, kD5_ap, kD6_ap, wp_chain, kCn1_ap, kCn2_ap, kCnS_ap, kCn3_ap, kCn4_ap, d_sum, d_max1, d_min1, tp h0]
  refine ⟨by omega, by rw [rng_len]; omega, ?_⟩
  refine lc_pure PyData.int (fun _ => true) (fun x => .int (cntL u x.toNat)) _ _ _ (fun x hx => ?_) ?_
  · rw [mem_rng] at hx
    obtain ⟨m, rfl⟩ : ∃ m : Nat, x = (m : Int) := ⟨x.toNat, by omega⟩
    simp (disch := (first | omega | (simp only [List.length_set, List.length_map, List.length_append, List.length_take, List.length_drop, rng_len]; omega))) only [wp_ret, wp_bad, wp_ok, wp_if, kR_ap, slP_imm, slP_lst, slP_ft, kE_ap, kI_ap, k1_ap, k2b_ap, k2_ap, k2s_ap, k3c_ap, k3b_ap, k3_ap, kOI_ap, kT_ap, kAnd_ap, kOr_ap, kNot_ap, kVA_ap, kVO_ap, kVN_ap, kIf_ap, kC2_ap, kC1_ap, kTup_ap, kLst_ap, kA_ap, kG2_ap, kG1_ap, kCall_ap, kSeq_nx, kSeq_rt, kSeq_bk, kSeq_ct, kSet_ap, kDrop_ap, kRt_ap, kNxE_ap, kAsg_ap, kFor_ap, kTurn_nx, kTurn_ct, kTurn_bk, kTurn_rt, kBody_ap, kWh_ap, kPar2_ap, kPar1_ap, kP3c_ap, kP3b_ap, kP3a_ap, kRg1_ap, kRg2b_ap, kRg2_ap, kSq_list, kSq_tuple, kEnum_ap, kZip2_ll, kZip1_ap, kLcE_ap, kLc_ap, kLt3_ap, kLt2_ap, kLt1_ap, kRun_nx, kRun_rt, vP_imm, vP_lst, vP_ft, wp_var, pP_imm, pP_lst, pP_ft, wp_peek, moP_ap, wp_move, lkP_imm, lkP_ft, wp_look, gsP_src, gsP_fT, gsP_ft, gsP_imm, wp_gSrc, gnP_imm, gnP_ft, gnP_lst, wp_gNm, gfP_dT, gfP_fT, wp_gFrz, kGt_dT, kGt_imm, kGt_ft, wp_gTmp, wp_C, wp_E, wp_I, wp_1, wp_2, wp_2s, wp_3, wp_oN, wp_oS, wp_T, wp_and, wp_or, wp_not, wp_yes, wp_mIf, wp_vAnd, wp_vOr, wp_vNot, wp_aNil, wp_aCons, wp_tup, wp_lst, wp_A, wp_tupRg, wp_lstRg, wp_gNil, wp_gCons, wp_call, wp_lc, wp_wSeq, wp_wEnum, wp_wZip, wp_wRange1, wp_wRange2, wp_sNx, wp_sBk, wp_sCt, wp_sRetN, wp_seq, wp_set, wp_drop, wp_sRet, wp_sIf, wp_asg, wp_tgName, wp_tgTup, wp_tgAll0, wp_tgAll1, wp_tgN1, wp_tgNs, wp_tgG, wp_tgS0, kTgS_ap, wp_tgS1, wp_sFor, wp_par, wp_par3, wp_run, kIx_ap, isLst_ap, wp_tgIx, kAp_ap, wp_append, kPo_ap, wp_popAt, d_add, d_addb, d_addT, d_addL, d_sub, d_mul, d_mulL, d_fdiv, d_mod, d_pow, d_neg, d_lt, d_le, d_gt, d_ge, d_eq, d_ne, d_eqT, d_neT, d_eqL, d_neL, d_eqT0, d_neT0, d_eqL0, d_neL0, d_eqS, d_neS, d_isN, d_isntN, d_lenT, d_lenL, d_abs, d_int, d_intb, d_tupT, d_tupL, tupP_ft, d_listT, d_listL, d_max, d_min, d_ixT, d_ixL, d_slT, d_slL, cut_to, cut_from, d_revL, d_revT, d_repr, wp_pk, wp_tup0, wp_wipe, wp_wipe0, wp_rest, wp_rest0, ix_zs, ap_zs, ap_z0, po_zs, at0_nat, at0_nat1, toN1, toN2, Int.toNat_natCast, rangeD_rng, rangeD_sub, d_sort, d_sortT, wp_dnewT, kDg2_ap, kDg1_ap, dkO_dT, dkO_fT, isSome_some, wp_dget2, kDp2_ap, kDp1_ap, wp_dput, kDE_lst, kDE_imm, kDE_ft, wp_dictE, List.getElem?_cons_zero, List.getElem?_cons_succ, List.set_cons_zero, List.set_cons_succ, List.length_cons, List.length_nil, List.length_map, List.map_cons, List.map_nil, List.replicate_succ, List.replicate_zero, List.nil_append, List.cons_append, Nat.reduceSub, Nat.reduceAdd, Nat.reduceLeDiff, Nat.reduceLT, Nat.zero_add, Nat.sub_self, decide_eq_true_eq, Bool.not_eq_true', decide_eq_false_iff_not, ite_true, ite_false, if_true, if_false, reduceIte, Bool.true_eq_false, Bool.false_eq_true, and_true, true_and, true_implies, not_true_eq_false, not_false_eq_true, Int.reduceLE, Int.reduceLT, gt_iff_lt, wp_indexT, itP_ft, itP_it, kIt_ap, kIr_ap, wp_disp2, kD1_ap, kD2_ap, kD3_ap, kD4_ap, kD5_ap, kD6_ap, wp_chain, kCn1_ap, kCn2_ap, kCnS_ap, kCn3_ap, kCn4_ap, d_sum, d_max1, d_min1, tp h0, ← List.map_drop]
    refine ⟨by rw [List.length_drop]; omega, ?_⟩
    refine lc_pure PyData.int (fun y => decide (y < u.getD m 0)) PyData.int _ _ _ (fun y hy => ?_) ?_
    · simp (disch := (first | omega | (simp only [List.length_set, List.length_map, List.length_append, List.length_take, List.length_drop, rng_len]; omega))) only [wp_ret, wp_bad, wp_ok, wp_if, kR_ap, slP_imm, slP_lst, slP_ft, kE_ap, kI_ap, k1_ap, k2b_ap, k2_ap, k2s_ap, k3c_ap, k3b_ap, k3_ap, kOI_ap, kT_ap, kAnd_ap, kOr_ap, kNot_ap, kVA_ap, kVO_ap, kVN_ap, kIf_ap, kC2_ap, kC1_ap, kTup_ap, kLst_ap, kA_ap, kG2_ap, kG1_ap, kCall_ap, kSeq_nx, kSeq_rt, kSeq_bk, kSeq_ct, kSet_ap, kDrop_ap, kRt_ap, kNxE_ap, kAsg_ap, kFor_ap, kTurn_nx, kTurn_ct, kTurn_bk, kTurn_rt, kBody_ap, kWh_ap, kPar2_ap, kPar1_ap, kP3c_ap, kP3b_ap, kP3a_ap, kRg1_ap, kRg2b_ap, kRg2_ap, kSq_list, kSq_tuple, kEnum_ap, kZip2_ll, kZip1_ap, kLcE_ap, kLc_ap, kLt3_ap, kLt2_ap, kLt1_ap, kRun_nx, kRun_rt, vP_imm, vP_lst, vP_ft, wp_var, pP_imm, pP_lst, pP_ft, wp_peek, moP_ap, wp_move, lkP_imm, lkP_ft, wp_look, gsP_src, gsP_fT, gsP_ft, gsP_imm, wp_gSrc, gnP_imm, gnP_ft, gnP_lst, wp_gNm, gfP_dT, gfP_fT, wp_gFrz, kGt_dT, kGt_imm, kGt_ft, wp_gTmp, wp_C, wp_E, wp_I, wp_1, wp_2, wp_2s, wp_3, wp_oN, wp_oS, wp_T, wp_and, wp_or, wp_not, wp_yes, wp_mIf, wp_vAnd, wp_vOr, wp_vNot, wp_aNil, wp_aCons, wp_tup, wp_lst, wp_A, wp_tupRg, wp_lstRg, wp_gNil, wp_gCons, wp_call, wp_lc, wp_wSeq, wp_wEnum, wp_wZip, wp_wRange1, wp_wRange2, wp_sNx, wp_sBk, wp_sCt, wp_sRetN, wp_seq, wp_set, wp_drop, wp_sRet, wp_sIf, wp_asg, wp_tgName, wp_tgTup, wp_tgAll0, wp_tgAll1, wp_tgN1, wp_tgNs, wp_tgG, wp_tgS0, kTgS_ap, wp_tgS1, wp_sFor, wp_par, wp_par3, wp_run, kIx_ap, isLst_ap, wp_tgIx, kAp_ap, wp_append, kPo_ap, wp_popAt, d_add, d_addb, d_addT, d_addL, d_sub, d_mul, d_mulL, d_fdiv, d_mod, d_pow, d_neg, d_lt, d_le, d_gt, d_ge, d_eq, d_ne, d_eqT, d_neT, d_eqL, d_neL, d_eqT0, d_neT0, d_eqL0, d_neL0, d_eqS, d_neS, d_isN, d_isntN, d_lenT, d_lenL, d_abs, d_int, d_intb, d_tupT, d_tupL, tupP_ft, d_listT, d_listL, d_max, d_min, d_ixT, d_ixL, d_slT, d_slL, cut_to, cut_from, d_revL, d_revT, d_repr, wp_pk, wp_tup0, wp_wipe, wp_wipe0, wp_rest, wp_rest0, ix_zs, ap_zs, ap_z0, po_zs, at0_nat, at0_nat1, toN1, toN2, Int.toNat_natCast, rangeD_rng, rangeD_sub, d_sort, d_sortT, wp_dnewT, kDg2_ap, kDg1_ap, dkO_dT, dkO_fT, isSome_some, wp_dget2, kDp2_ap, kDp1_ap, wp_dput, kDE_lst, kDE_imm, kDE_ft, wp_dictE, List.getElem?_cons_zero, List.getElem?_cons_succ, List.set_cons_zero, List.set_cons_succ, List.length_cons, List.length_nil, List.length_map, List.map_cons, List.map_nil, List.replicate_succ, List.replicate_zero, List.nil_append, List.cons_append, Nat.reduceSub, Nat.reduceAdd, Nat.reduceLeDiff, Nat.reduceLT, Nat.zero_add, Nat.sub_self, decide_eq_true_eq, Bool.not_eq_true', decide_eq_false_iff_not, ite_true, ite_false, if_true, if_false, reduceIte, Bool.true_eq_false, Bool.false_eq_true, and_true, true_and, true_implies, not_true_eq_false, not_false_eq_true, Int.reduceLE, Int.reduceLT, gt_iff_lt, wp_indexT, itP_ft, itP_it, kIt_ap, kIr_ap, wp_disp2, kD1_ap, kD2_ap, kD3_ap, kD4_ap, kD5_ap, kD6_ap, wp_chain, kCn1_ap, kCn2_ap, kCnS_ap, kCn3_ap, kCn4_ap, d_sum, d_max1, d_min1, tp h0]
      by_cases c : y < u.getD m 0
      · rw [if_pos c, if_pos c]
      · rw [if_neg c, if_neg c]
    · nofun
      exact ⟨rfl, rfl⟩
  · have e2 : ((rng u.length).filter fun _ => true).map (fun x => PyData.int (cntL u x.toNat)) = ((List.range u.length).map (cntL u)).map PyData.int := by
      rw [List.filter_eq_self.mpr fun _ _ => rfl]
      unfold rng
      rw [List.map_map, List.map_map]
      rfl
    rw [e2]
    nofun
    rw [sum_inv]
    exact k
/-! ### all rows -/
theorem wp_lexch {i j : Nat} (hu : IsRow n u) (hi : i < n) (hj : j < n) (h0 : TupS s0 (zs u)) (K : Sl → Prop) (k : K (.ft (zs ((u.set i (u.getD j 0)).set j (u.getD i 0))))) : WP (w__law_exchanged [s0, .imm (.int (i : Nat)), .imm (.int (j : Nat))]) K := by
  rw [w__law_exchanged_def, wp_run]
  unfold m__law_exchanged
  have hl := hu.len
  simp (disch := (first | omega | (simp only [List.length_set, List.length_map, List.length_append, List.length_take, List.length_drop, rng_len]; omega))) only [wp_ret, wp_bad, wp_ok, wp_if, kR_ap, slP_imm, slP_lst, slP_ft, kE_ap, kI_ap, k1_ap, k2b_ap, k2_ap, k2s_ap, k3c_ap, k3b_ap, k3_ap, kOI_ap, kT_ap, kAnd_ap, kOr_ap, kNot_ap, kVA_ap, kVO_ap, kVN_ap, kIf_ap, kC2_ap, kC1_ap, kTup_ap, kLst_ap, kA_ap, kG2_ap, kG1_ap, kCall_ap, kSeq_nx, kSeq_rt, kSeq_bk, kSeq_ct, kSet_ap, kDrop_ap, kRt_ap, kNxE_ap, kAsg_ap, kFor_ap, kTurn_nx, kTurn_ct, kTurn_bk, kTurn_rt, kBody_ap, kWh_ap, kPar2_ap, kPar1_ap, kP3c_ap, kP3b_ap, kP3a_ap, kRg1_ap, kRg2b_ap, kRg2_ap, kSq_list, kSq_tuple, kEnum_ap, kZip2_ll, kZip1_ap, kLcE_ap, kLc_ap, kLt3_ap, kLt2_ap, kLt1_ap, kRun_nx, kRun_rt, vP_imm, vP_lst, vP_ft, wp_var, pP_imm, pP_lst, pP_ft, wp_peek, moP_ap, wp_move, lkP_imm, lkP_ft, wp_look, gsP_src, gsP_fT, gsP_ft, gsP_imm, wp_gSrc, gnP_imm, gnP_ft, gnP_lst, wp_gNm, gfP_dT, gfP_fT, wp_gFrz, kGt_dT, kGt_imm, kGt_ft, wp_gTmp, wp_C, wp_E, wp_I, wp_1, wp_2, wp_2s, wp_3, wp_oN, wp_oS, wp_T, wp_and, wp_or, wp_not, wp_yes, wp_mIf, wp_vAnd, wp_vOr, wp_vNot, wp_aNil, wp_aCons, wp_tup, wp_lst, wp_A, wp_tupRg, wp_lstRg, wp_gNil, wp_gCons, wp_call, wp_lc, wp_wSeq, wp_wEnum, wp_wZip, wp_wRange1, wp_wRange2, wp_sNx, wp_sBk, wp_sCt, wp_sRetN, wp_seq, wp_set, wp_drop, wp_sRet, wp_sIf, wp_asg, wp_tgName, wp_tgTup, wp_tgAll0, wp_tgAll1, wp_tgN1, wp_tgNs, wp_tgG, wp_tgS0, kTgS_ap, wp_tgS1, wp_sFor, wp_par, wp_par3, wp_run, kIx_ap, isLst_ap, wp_tgIx, kAp_ap, wp_append, kPo_ap, wp_popAt, d_add, d_addb, d_addT, d_addL, d_sub, d_mul, d_mulL, d_fdiv, d_mod, d_pow, d_neg, d_lt, d_le, d_gt, d_ge, d_eq, d_ne, d_eqT, d_neT, d_eqL, d_neL, d_eqT0, d_neT0, d_eqL0, d_neL0, d_eqS, d_neS, d_isN, d_isntN, d_lenT, d_lenL, d_abs, d_int, d_intb, d_tupT, d_tupL, tupP_ft, d_listT, d_listL, d_max, d_min, d_ixT, d_ixL, d_slT, d_slL, cut_to, cut_from, d_revL, d_revT, d_repr, wp_pk, wp_tup0, wp_wipe, wp_wipe0, wp_rest, wp_rest0, ix_zs, ap_zs, ap_z0, po_zs, at0_nat, at0_nat1, toN1, toN2, Int.toNat_natCast, rangeD_rng, rangeD_sub, d_sort, d_sortT, wp_dnewT, kDg2_ap, kDg1_ap, dkO_dT, dkO_fT, isSome_some, wp_dget2, kDp2_ap, kDp1_ap, wp_dput, kDE_lst, kDE_imm, kDE_ft, wp_dictE, List.getElem?_cons_zero, List.getElem?_cons_succ, List.set_cons_zero, List.set_cons_succ, List.length_cons, List.length_nil, List.length_map, List.map_cons, List.map_nil, List.replicate_succ, List.replicate_zero, List.nil_append, List.cons_append, Nat.reduceSub, Nat.reduceAdd, Nat.reduceLeDiff, Nat.reduceLT, Nat.zero_add, Nat.sub_self, decide_eq_true_eq, Bool.not_eq_true', decide_eq_false_iff_not, ite_true, ite_false, if_true, if_false, reduceIte, Bool.true_eq_false, Bool.false_eq_true, and_true, true_and, true_implies, not_true_eq_false, not_false_eq_true, Int.reduceLE, Int.reduceLT, gt_iff_lt, wp_indexT, itP_ft, itP_it, kIt_ap, kIr_ap, wp_disp2, kD1_ap, kD2_ap, kD3_ap, kD4_ap, kD5_ap, kD6_ap, wp_chain, kCn1_ap, kCn2_ap, kCnS_ap, kCn3_ap, kCn4_ap, d_sum, d_max1, d_min1, tp h0]
  exact k
end
/-- the rows of m things out of n, from the left -/
def allR (n : Nat) : Nat → List (List Int)
  | 0 => [[]]
  | m + 1 => (allR n m).flatMap fun r => ((rng n).filter fun t => decide (t ∉ r)).map fun t => r ++ [t]
theorem allR_mem {n : Nat} : ∀ {m : Nat} {r : List Int}, r ∈ allR n m ↔ r.length = m ∧ r.Nodup ∧ ∀ x ∈ r, 0 ≤ x ∧ x < (n : Int)
  | 0, r => by
    show r ∈ [[]] ↔ _
    rw [List.mem_singleton]
    constructor
    · rintro rfl; exact ⟨rfl, List.nodup_nil, fun x hx => by simp at hx⟩
    · rintro ⟨h, _⟩; exact List.eq_nil_of_length_eq_zero h
  | m + 1, r => by
    show r ∈ (allR n m).flatMap _ ↔ _
    rw [List.mem_flatMap]
    constructor
    · rintro ⟨q, hq, hr⟩
      obtain ⟨t, ht, rfl⟩ := List.mem_map.mp hr
      obtain ⟨h1, h2, h3⟩ := allR_mem.mp hq
      obtain ⟨t1, t2⟩ := List.mem_filter.mp ht
      have t2 : t ∉ q := of_decide_eq_true t2
      refine ⟨by rw [List.length_append, h1]; rfl, ?_, fun x hx => ?_⟩
      · rw [List.nodup_append]
        refine ⟨h2, by simp, fun a ha b hb => ?_⟩
        rw [List.mem_singleton] at hb
        subst hb
        exact fun e => t2 (e ▸ ha)
      · rcases List.mem_append.mp hx with hx | hx
        · exact h3 x hx
        · rw [List.mem_singleton] at hx
          subst hx
          exact mem_rng.mp t1
    · rintro ⟨h1, h2, h3⟩
      have hne : r ≠ [] := fun e => by rw [e] at h1; simp at h1
      have e := List.dropLast_concat_getLast hne
      have nd := h2
      rw [← e, List.nodup_append] at nd
      refine ⟨r.dropLast, allR_mem.mpr ⟨by rw [List.length_dropLast]; omega, nd.1, fun x hx => h3 x ((List.dropLast_subset r) hx)⟩, ?_⟩
      refine List.mem_map.mpr ⟨r.getLast hne, List.mem_filter.mpr ⟨mem_rng.mpr (h3 _ (List.getLast_mem hne)), decide_eq_true fun z => nd.2.2 _ z _ (by simp) rfl⟩, e⟩
theorem nd_len : ∀ (a b : List Int), a.Nodup → (∀ x ∈ a, x ∈ b) → a.length ≤ b.length
  | [], _, _, _ => Nat.zero_le _
  | x :: a, b, h, hs => by
    rw [List.nodup_cons] at h
    have hx := hs x (by simp)
    have ih := nd_len a (b.erase x) h.2 fun y hy => (List.mem_erase_of_ne (show y ≠ x from fun e => h.1 (by rw [← e]; exact hy))).mpr (hs y (by simp [hy]))
    rw [List.length_erase_of_mem hx] at ih
    have := List.length_pos_of_mem hx
    rw [List.length_cons]
    omega
theorem allR_rows {n : Nat} {r : List Int} : r ∈ allR n n ↔ IsRow n r := by
  rw [allR_mem]
  constructor
  · rintro ⟨h1, h2, h3⟩
    have sub : ∀ x, x ∈ r ↔ x ∈ rng n := by
      refine fun x => ⟨fun hx => mem_rng.mpr (h3 x hx), fun hx => ?_⟩
      by_cases c : x ∈ r
      · exact c
      · have := nd_len (x :: r) (rng n) (List.nodup_cons.mpr ⟨c, h2⟩) fun y hy => by
          rcases List.mem_cons.mp hy with rfl | hy
          · exact hx
          · exact mem_rng.mpr (h3 y hy)
        rw [rng_len, List.length_cons, h1] at this
        omega
    exact ⟨nodup_subset_perm h2 (rng_nodup n) sub⟩
  · intro h
    exact ⟨h.len, h.nodup, fun x hx => h.mem.mp hx⟩
theorem allR_len (n : Nat) : ∀ m, (allR n m).length ≤ n ^ m
  | 0 => Nat.le_refl _
  | m + 1 => by
    have key : ∀ L : List (List Int), (L.flatMap fun r => ((rng n).filter fun t => decide (t ∉ r)).map fun t => r ++ [t]).length ≤ L.length * n := by
      intro L
      induction L with
      | nil => simp
      | cons r L ih =>
        rw [List.flatMap_cons, List.length_append, List.length_map, List.length_cons, Nat.add_mul, Nat.one_mul]
        have := List.length_filter_le (fun t => decide (t ∉ r)) (rng n)
        rw [rng_len] at this
        omega
    have h := key (allR n m)
    have ih := Nat.mul_le_mul_right n (allR_len n m)
    rw [Nat.pow_succ]
    exact Nat.le_trans h ih
theorem any_zs (x : Int) : ∀ xs : List Int, ((xs.map PyData.int).any fun z => PyData.eqv z (.int x)) = decide (x ∈ xs)
  | [] => rfl
  | y :: xs => by
    have e : PyData.eqv (.int y) (.int x) = (y == x) := rfl
    rw [List.map_cons, List.any_cons, any_zs x xs, e]
    by_cases c : y = x
    · subst c; simp
    · have : (y == x) = false := beq_eq_false_iff_ne.mpr c
      rw [this]
      have c' : ¬ x = y := fun z => c z.symm
      simp [c']
theorem d_notinT {Ps : Sl → Prop} {xs : List Int} {x : Int} : WP (notinD (.int x) (.tuple (xs.map PyData.int))) Ps = Ps (.imm (.bool (!decide (x ∈ xs)))) := by
  show WP (ok _ _) Ps = _
  rw [wp_ok]
  show (_ ∧ WP (Tr.ret _) Ps) = _
  rw [wp_ret, any_zs]
  exact propext ⟨fun z => z.2, fun z => ⟨⟨sh_int x, sh_zT xs⟩, z⟩⟩
def ListS (s : Sl) (ds : List PyData) : Prop := s = .lst ds ∨ s = .imm (.list ds)
def ext1 (n : Nat) (r : List Int) : List (List Int) := ((rng n).filter fun t => decide (t ∉ r)).map fun t => r ++ [t]
theorem ext1_len (n : Nat) (r : List Int) : (ext1 n r).length ≤ n := by
  unfold ext1
  rw [List.length_map]
  have := List.length_filter_le (fun t => decide (t ∉ r)) (rng n)
  rwa [rng_len] at this
theorem ext_len (n : Nat) : ∀ L : List (List Int), (L.flatMap (ext1 n)).length ≤ L.length * n
  | [] => by simp
  | r :: L => by
    rw [List.flatMap_cons, List.length_append, List.length_cons, Nat.add_mul, Nat.one_mul]
    have := ext1_len n r
    have := ext_len n L
    omega
theorem wp_all_rows {n : Nat} (h1 : 1 ≤ n) (h4 : n ≤ 4) (K : Sl → Prop) (k : ∀ s, ListS s ((allR n n).map zT) → K s) : WP (w__law_all_rows [.imm (.int (n : Nat))]) K := by
  rw [w__law_all_rows_def, wp_run]
  unfold m__law_all_rows
  nofun
  refine ⟨by omega, ?_⟩
  refine for_inv PyData.int (fun d env => ∃ s1 e2 e3 e4 e5, env = [some (.imm (.int (n : Nat))), some s1, e2, e3, e4, e5] ∧ ListS s1 ((allR n d.length).map zT) ∧ d.length ≤ n) (rng n) [] _ ⟨_, _, _, _, _, rfl, .inl rfl, Nat.zero_le _⟩ ?_ ?_
  · rintro d x rest env e ⟨s1, e2, e3, e4, e5, rfl, hs1, hd⟩
    have hd' : d.length < n := by
      have := congrArg List.length e
      simp only [List.nil_append, List.length_append, List.length_cons, rng_len] at this
      omega
    have hlen : (allR n d.length).length ≤ 256 := by
      refine Nat.le_trans (allR_len n d.length) ?_
      refine Nat.le_trans (Nat.pow_le_pow_left h4 _) ?_
      exact Nat.le_trans (Nat.pow_le_pow_right (by decide) (show d.length ≤ 4 by omega)) (by decide)
    have hr4 : ∀ r ∈ allR n d.length, r.length ≤ 4 := fun r hr => by have := (allR_mem.mp hr).1; omega
    have key : ∀ s1', WP (forD (tgName 4) (sSet 3 (m2 addD (mVar 3) (mI (mLc (wRange1 (mVar 0)) true [5] (mT (mI (m2 notinD (mPeek 5) (mPeek 4)))) (mI (m2 addD (mPeek 4) (mI (mTup (aCons (mVar 5) aNil))))))))) (List.map zT (allR n d.length)) [some (Sl.imm (PyData.int ↑n)), some s1', some (Sl.imm (PyData.int x)), some (Sl.lst []), e4, e5]) (kSeq (sSet 1 (mE (mVar 3))) (kTurn (fun env => ∃ s1 e2 e3 e4 e5, env = [some (Sl.imm (PyData.int ↑n)), some s1, e2, e3, e4, e5] ∧ ListS s1 (List.map zT (allR n (d ++ [x]).length)) ∧ (d ++ [x]).length ≤ n) (kSeq (sRet (mMove 1)) (kRun K)))) := by
      intro s1'
      refine for_inv zT (fun d2 env => ∃ s3 e4 e5, env = [some (Sl.imm (PyData.int ↑n)), some s1', some (Sl.imm (PyData.int x)), some s3, e4, e5] ∧ ListS s3 ((d2.flatMap (ext1 n)).map zT)) (allR n d.length) [] _ ⟨_, _, _, rfl, .inl rfl⟩ ?_ ?_
      · rintro d2 r rest2 env e6 ⟨s3, e4, e5, rfl, hs3⟩
        rw [List.nil_append] at e6
        have hr := hr4 r (by rw [e6]; simp)
        have l2 : d2.length ≤ 256 := by
          have := congrArg List.length e6
          simp only [List.length_append, List.length_cons] at this
          omega
        have l3 : (d2.flatMap (ext1 n)).length ≤ 1024 := by
          refine Nat.le_trans (ext_len n d2) ?_
          exact Nat.mul_le_mul l2 h4
        have l4 := ext1_len n r
        have lcs : ∀ (env : Ev) (K : List PyData × Ev → Prop), env = [some (Sl.imm (PyData.int ↑n)), some s1', some (Sl.imm (PyData.int x)), some (.imm (.list ((d2.flatMap (ext1 n)).map zT))), some (.imm (zT r)), none] → K ((ext1 n r).map zT, env) →
            WP (lcD true [5] (mT (mI (m2 notinD (mPeek 5) (mPeek 4)))) (mI (m2 addD (mPeek 4) (mI (mTup (aCons (mVar 5) aNil))))) ((rng n).map PyData.int) env) K := by
          intro env K he hK
          subst he
          have ee : ((rng n).filter fun t => decide (t ∉ r)).map (fun t => zT (r ++ [t])) = (ext1 n r).map zT := by
            unfold ext1
            rw [List.map_map]
            rfl
          refine lc_pure PyData.int (fun t => decide (t ∉ r)) (fun t => zT (r ++ [t])) _ _ _ (fun t ht => ?_) (by rw [ee]; exact hK)
          simp (disch := (first | omega | (simp only [List.length_set, List.length_map, List.length_append, List.length_take, List.length_drop, rng_len]; omega))) only [wp_ret, wp_bad, wp_ok, wp_if, kR_ap, slP_imm, slP_lst, slP_ft, kE_ap, kI_ap, k1_ap, k2b_ap, k2_ap, k2s_ap, k3c_ap, k3b_ap, k3_ap, kOI_ap, kT_ap, kAnd_ap, kOr_ap, kNot_ap, kVA_ap, kVO_ap, kVN_ap, kIf_ap, kC2_ap, kC1_ap, kTup_ap, kLst_ap, kA_ap, kG2_ap, kG1_ap, kCall_ap, kSeq_nx, kSeq_rt, kSeq_bk, kSeq_ct, kSet_ap, kDrop_ap, kRt_ap, kNxE_ap, kAsg_ap, kFor_ap, kTurn_nx, kTurn_ct, kTurn_bk, kTurn_rt, kBody_ap, kWh_ap, kPar2_ap, kPar1_ap, kP3c_ap, kP3b_ap, kP3a_ap, kRg1_ap, kRg2b_ap, kRg2_ap, kSq_list, kSq_tuple, kEnum_ap, kZip2_ll, kZip1_ap, kLcE_ap, kLc_ap, kLt3_ap, kLt2_ap, kLt1_ap, kRun_nx, kRun_rt, vP_imm, vP_lst, vP_ft, wp_var, pP_imm, pP_lst, pP_ft, wp_peek, moP_ap, wp_move, lkP_imm, lkP_ft, wp_look, gsP_src, gsP_fT, gsP_ft, gsP_imm, wp_gSrc, gnP_imm, gnP_ft, gnP_lst, wp_gNm, gfP_dT, gfP_fT, wp_gFrz, kGt_dT, kGt_imm, kGt_ft, wp_gTmp, wp_C, wp_E, wp_I, wp_1, wp_2, wp_2s, wp_3, wp_oN, wp_oS, wp_T, wp_and, wp_or, wp_not, wp_yes, wp_mIf, wp_vAnd, wp_vOr, wp_vNot, wp_aNil, wp_aCons, wp_tup, wp_lst, wp_A, wp_tupRg, wp_lstRg, wp_gNil, wp_gCons, wp_call, wp_lc, wp_wSeq, wp_wEnum, wp_wZip, wp_wRange1, wp_wRange2, wp_sNx, wp_sBk, wp_sCt, wp_sRetN, wp_seq, wp_set, wp_drop, wp_sRet, wp_sIf, wp_asg, wp_tgName, wp_tgTup, wp_tgAll0, wp_tgAll1, wp_tgN1, wp_tgNs, wp_tgG, wp_tgS0, kTgS_ap, wp_tgS1, wp_sFor, wp_par, wp_par3, wp_run, kIx_ap, isLst_ap, wp_tgIx, kAp_ap, wp_append, kPo_ap, wp_popAt, d_add, d_addb, d_addT, d_addL, d_sub, d_mul, d_mulL, d_fdiv, d_mod, d_pow, d_neg, d_lt, d_le, d_gt, d_ge, d_eq, d_ne, d_eqT, d_neT, d_eqL, d_neL, d_eqT0, d_neT0, d_eqL0, d_neL0, d_eqS, d_neS, d_isN, d_isntN, d_lenT, d_lenL, d_abs, d_int, d_intb, d_tupT, d_tupL, tupP_ft, d_listT, d_listL, d_max, d_min, d_ixT, d_ixL, d_slT, d_slL, cut_to, cut_from, d_revL, d_revT, d_repr, wp_pk, wp_tup0, wp_wipe, wp_wipe0, wp_rest, wp_rest0, ix_zs, ap_zs, ap_z0, po_zs, at0_nat, at0_nat1, toN1, toN2, Int.toNat_natCast, rangeD_rng, rangeD_sub, d_sort, d_sortT, wp_dnewT, kDg2_ap, kDg1_ap, dkO_dT, dkO_fT, isSome_some, wp_dget2, kDp2_ap, kDp1_ap, wp_dput, kDE_lst, kDE_imm, kDE_ft, wp_dictE, List.getElem?_cons_zero, List.getElem?_cons_succ, List.set_cons_zero, List.set_cons_succ, List.length_cons, List.length_nil, List.length_map, List.map_cons, List.map_nil, List.replicate_succ, List.replicate_zero, List.nil_append, List.cons_append, Nat.reduceSub, Nat.reduceAdd, Nat.reduceLeDiff, Nat.reduceLT, Nat.zero_add, Nat.sub_self, decide_eq_true_eq, Bool.not_eq_true', decide_eq_false_iff_not, ite_true, ite_false, if_true, if_false, reduceIte, Bool.true_eq_false, Bool.false_eq_true, and_true, true_and, true_implies, not_true_eq_false, not_false_eq_true, Int.reduceLE, Int.reduceLT, gt_iff_lt, wp_indexT, itP_ft, itP_it, kIt_ap, kIr_ap, wp_disp2, kD1_ap, kD2_ap, kD3_ap, kD4_ap, kD5_ap, kD6_ap, wp_chain, kCn1_ap, kCn2_ap, kCnS_ap, kCn3_ap, kCn4_ap, d_sum, d_max1, d_min1, d_notinT]
          by_cases c : t ∈ r
          · rw [if_neg (fun z => z c), if_neg (fun z => z c)]
          · rw [if_pos c, if_pos c]
            refine ⟨by omega, ?_⟩
            simp only [zT, zs, List.map_append, List.map_cons, List.map_nil]
        rcases hs3 with rfl | rfl
        all_goals
          nofun
          refine ⟨by omega, by rw [rng_len]; omega, lcs _ _ rfl ?_⟩
          nofun
          refine ⟨by omega, _, _, _, rfl, .inl ?_⟩
          rw [List.flatMap_append, List.map_append, List.flatMap_cons, List.flatMap_nil, List.append_nil]
      · rintro env ⟨s3, e4, e5, rfl, hs3⟩
        rw [List.nil_append] at hs3
        have e7 : (d ++ [x]).length = d.length + 1 := by rw [List.length_append]; rfl
        rcases hs3 with rfl | rfl
        · nofun
          exact ⟨_, _, _, _, _, rfl, .inr (by rw [e7]; rfl), by omega⟩
        · nofun
          exact ⟨_, _, _, _, _, rfl, .inr (by rw [e7]; rfl), by omega⟩
    rcases hs1 with rfl | rfl
    · nofun
      exact key _
    · nofun
      exact key _
  · rintro env ⟨s1, e2, e3, e4, e5, rfl, hs1, hd⟩
    nofun
    rw [List.nil_append, rng_len] at hs1
    exact k _ hs1
end T

set_option Elab.async false
set_option linter.all false
set_option autoImplicit false
set_option maxRecDepth 100000
namespace T
open PySem PySem.Spec L2 PV
local macro_rules | `(tactic| nofun) => `(tactic| simp (disch := (first | omega | (simp only [List.length_set, List.length_map, List.length_append, List.length_take, List.length_drop, rng_len]; omega))) only [wp_ret, wp_bad, wp_ok, wp_if, kR_ap, slP_imm, slP_lst, slP_ft, kE_ap, kI_ap, k1_ap, k2b_ap, k2_ap, k2s_ap, k3c_ap, k3b_ap, k3_ap, kOI_ap, kT_ap, kAnd_ap, kOr_ap, kNot_ap, kVA_ap, kVO_ap, kVN_ap, kIf_ap, kC2_ap, kC1_ap, kTup_ap, kLst_ap, kA_ap, kG2_ap, kG1_ap, kCall_ap, kSeq_nx, kSeq_rt, kSeq_bk, kSeq_ct, kSet_ap, kDrop_ap, kRt_ap, kNxE_ap, kAsg_ap, kFor_ap, kTurn_nx, kTurn_ct, kTurn_bk, kTurn_rt, kBody_ap, kWh_ap, kPar2_ap, kPar1_ap, kP3c_ap, kP3b_ap, kP3a_ap, kRg1_ap, kRg2b_ap, kRg2_ap, kSq_list, kSq_tuple, kEnum_ap, kZip2_ll, kZip1_ap, kLcE_ap, kLc_ap, kLt3_ap, kLt2_ap, kLt1_ap, kRun_nx, kRun_rt, vP_imm, vP_lst, vP_ft, wp_var, pP_imm, pP_lst, pP_ft, wp_peek, moP_ap, wp_move, lkP_imm, lkP_ft, wp_look, gsP_src, gsP_fT, gsP_ft, gsP_imm, wp_gSrc, gnP_imm, gnP_ft, gnP_lst, wp_gNm, gfP_dT, gfP_fT, wp_gFrz, kGt_dT, kGt_imm, kGt_ft, wp_gTmp, wp_C, wp_E, wp_I, wp_1, wp_2, wp_2s, wp_3, wp_oN, wp_oS, wp_T, wp_and, wp_or, wp_not, wp_yes, wp_mIf, wp_vAnd, wp_vOr, wp_vNot, wp_aNil, wp_aCons, wp_tup, wp_lst, wp_A, wp_tupRg, wp_lstRg, wp_gNil, wp_gCons, wp_call, wp_lc, wp_wSeq, wp_wEnum, wp_wZip, wp_wRange1, wp_wRange2, wp_sNx, wp_sBk, wp_sCt, wp_sRetN, wp_seq, wp_set, wp_drop, wp_sRet, wp_sIf, wp_asg, wp_tgName, wp_tgTup, wp_tgAll0, wp_tgAll1, wp_tgN1, wp_tgNs, wp_tgG, wp_tgS0, kTgS_ap, wp_tgS1, wp_sFor, wp_par, wp_par3, wp_run, kIx_ap, isLst_ap, wp_tgIx, kAp_ap, wp_append, kPo_ap, wp_popAt, d_add, d_addb, d_addT, d_addL, d_sub, d_mul, d_mulL, d_fdiv, d_mod, d_pow, d_neg, d_lt, d_le, d_gt, d_ge, d_eq, d_ne, d_eqT, d_neT, d_eqL, d_neL, d_eqT0, d_neT0, d_eqL0, d_neL0, d_eqS, d_neS, d_isN, d_isntN, d_lenT, d_lenL, d_abs, d_int, d_intb, d_tupT, d_tupL, tupP_ft, d_listT, d_listL, d_max, d_min, d_ixT, d_ixL, d_slT, d_slL, cut_to, cut_from, d_revL, d_revT, d_repr, wp_pk, wp_tup0, wp_wipe, wp_wipe0, wp_rest, wp_rest0, ix_zs, ap_zs, ap_z0, po_zs, at0_nat, at0_nat1, toN1, toN2, Int.toNat_natCast, rangeD_rng, rangeD_sub, d_sort, d_sortT, wp_dnewT, kDg2_ap, kDg1_ap, dkO_dT, dkO_fT, isSome_some, wp_dget2, kDp2_ap, kDp1_ap, wp_dput, kDE_lst, kDE_imm, kDE_ft, wp_dictE, List.getElem?_cons_zero, List.getElem?_cons_succ, List.set_cons_zero, List.set_cons_succ, List.length_cons, List.length_nil, List.length_map, List.map_cons, List.map_nil, List.replicate_succ, List.replicate_zero, List.nil_append, List.cons_append, Nat.reduceSub, Nat.reduceAdd, Nat.reduceLeDiff, Nat.reduceLT, Nat.zero_add, Nat.sub_self, decide_eq_true_eq, Bool.not_eq_true', decide_eq_false_iff_not, ite_true, ite_false, if_true, if_false, reduceIte, Bool.true_eq_false, Bool.false_eq_true, and_true, true_and, true_implies, not_true_eq_false, not_false_eq_true, Int.reduceLE, Int.reduceLT, gt_iff_lt, wp_indexT, itP_ft, itP_it, kIt_ap, kIr_ap, wp_disp2, kD1_ap, kD2_ap, kD3_ap, kD4_ap, kD5_ap, kD6_ap, wp_chain, kCn1_ap, kCn2_ap, kCnS_ap, kCn3_ap, kCn4_ap, d_sum, d_max1, d_min1])
noncomputable def belB (u w : List Int) : Bool := @decide (Bel u w) (Classical.propDecidable _)
theorem belB_t {u w : List Int} (h : Bel u w) : belB u w = true := @decide_eq_true _ (Classical.propDecidable _) h
theorem belB_f {u w : List Int} (h : ¬ Bel u w) : belB u w = false := @decide_eq_false _ (Classical.propDecidable _) h
noncomputable def rowsB (n : Nat) (w : List Int) : List (List Int) := (allR n n).filter fun r => belB r w
theorem rowsB_mem {n : Nat} {w r : List Int} : r ∈ rowsB n w ↔ IsRow n r ∧ Bel r w := by
  unfold rowsB
  rw [List.mem_filter, allR_rows]
  constructor
  · rintro ⟨h1, h2⟩
    by_cases c : Bel r w
    · exact ⟨h1, c⟩
    · rw [belB_f c] at h2; cases h2
  · rintro ⟨h1, h2⟩
    exact ⟨h1, belB_t h2⟩
theorem wp_rows_below {n : Nat} {w : List Int} {s : Sl} (hw : IsRow n w) (h1 : 1 ≤ n) (h4 : n ≤ 4) (hs : TupS s (zs w)) (K : Sl → Prop) (k : K (.lst ((rowsB n w).map zT))) : WP (w__law_rows_below [s]) K := by
  rw [w__law_rows_below_def, wp_run]
  unfold m__law_rows_below
  have hl := hw.len
  simp (disch := (first | omega | (simp only [List.length_set, List.length_map, List.length_append, List.length_take, List.length_drop, rng_len]; omega))) only [wp_ret, wp_bad, wp_ok, wp_if, kR_ap, slP_imm, slP_lst, slP_ft, kE_ap, kI_ap, k1_ap, k2b_ap, k2_ap, k2s_ap, k3c_ap, k3b_ap, k3_ap, kOI_ap, kT_ap, kAnd_ap, kOr_ap, kNot_ap, kVA_ap, kVO_ap, kVN_ap, kIf_ap, kC2_ap, kC1_ap, kTup_ap, kLst_ap, kA_ap, kG2_ap, kG1_ap, kCall_ap, kSeq_nx, kSeq_rt, kSeq_bk, kSeq_ct, kSet_ap, kDrop_ap, kRt_ap, kNxE_ap, kAsg_ap, kFor_ap, kTurn_nx, kTurn_ct, kTurn_bk, kTurn_rt, kBody_ap, kWh_ap, kPar2_ap, kPar1_ap, kP3c_ap, kP3b_ap, kP3a_ap, kRg1_ap, kRg2b_ap, kRg2_ap, kSq_list, kSq_tuple, kEnum_ap, kZip2_ll, kZip1_ap, kLcE_ap, kLc_ap, kLt3_ap, kLt2_ap, kLt1_ap, kRun_nx, kRun_rt, vP_imm, vP_lst, vP_ft, wp_var, pP_imm, pP_lst, pP_ft, wp_peek, moP_ap, wp_move, lkP_imm, lkP_ft, wp_look, gsP_src, gsP_fT, gsP_ft, gsP_imm, wp_gSrc, gnP_imm, gnP_ft, gnP_lst, wp_gNm, gfP_dT, gfP_fT, wp_gFrz, kGt_dT, kGt_imm, kGt_ft, wp_gTmp, wp_C, wp_E, wp_I, wp_1, wp_2, wp_2s, wp_3, wp_oN, wp_oS, wp_T, wp_and, wp_or, wp_not, wp_yes, wp_mIf, wp_vAnd, wp_vOr, wp_vNot, wp_aNil, wp_aCons, wp_tup, wp_lst, wp_A, wp_tupRg, wp_lstRg, wp_gNil, wp_gCons, wp_call, wp_lc, wp_wSeq, wp_wEnum, wp_wZip, wp_wRange1, wp_wRange2, wp_sNx, wp_sBk, wp_sCt, wp_sRetN, wp_seq, wp_set, wp_drop, wp_sRet, wp_sIf, wp_asg, wp_tgName, wp_tgTup, wp_tgAll0, wp_tgAll1, wp_tgN1, wp_tgNs, wp_tgG, wp_tgS0, kTgS_ap, wp_tgS1, wp_sFor, wp_par, wp_par3, wp_run, kIx_ap, isLst_ap, wp_tgIx, kAp_ap, wp_append, kPo_ap, wp_popAt, d_add, d_addb, d_addT, d_addL, d_sub, d_mul, d_mulL, d_fdiv, d_mod, d_pow, d_neg, d_lt, d_le, d_gt, d_ge, d_eq, d_ne, d_eqT, d_neT, d_eqL, d_neL, d_eqT0, d_neT0, d_eqL0, d_neL0, d_eqS, d_neS, d_isN, d_isntN, d_lenT, d_lenL, d_abs, d_int, d_intb, d_tupT, d_tupL, tupP_ft, d_listT, d_listL, d_max, d_min, d_ixT, d_ixL, d_slT, d_slL, cut_to, cut_from, d_revL, d_revT, d_repr, wp_pk, wp_tup0, wp_wipe, wp_wipe0, wp_rest, wp_rest0, ix_zs, ap_zs, ap_z0, po_zs, at0_nat, at0_nat1, toN1, toN2, Int.toNat_natCast, rangeD_rng, rangeD_sub, d_sort, d_sortT, wp_dnewT, kDg2_ap, kDg1_ap, dkO_dT, dkO_fT, isSome_some, wp_dget2, kDp2_ap, kDp1_ap, wp_dput, kDE_lst, kDE_imm, kDE_ft, wp_dictE, List.getElem?_cons_zero, List.getElem?_cons_succ, List.set_cons_zero, List.set_cons_succ, List.length_cons, List.length_nil, List.length_map, List.map_cons, List.map_nil, List.replicate_succ, List.replicate_zero, List.nil_append, List.cons_append, Nat.reduceSub, Nat.reduceAdd, Nat.reduceLeDiff, Nat.reduceLT, Nat.zero_add, Nat.sub_self, decide_eq_true_eq, Bool.not_eq_true', decide_eq_false_iff_not, ite_true, ite_false, if_true, if_false, reduceIte, Bool.true_eq_false, Bool.false_eq_true, and_true, true_and, true_implies, not_true_eq_false, not_false_eq_true, Int.reduceLE, Int.reduceLT, gt_iff_lt, wp_indexT, itP_ft, itP_it, kIt_ap, kIr_ap, wp_disp2, kD1_ap, kD2_ap, kD3_ap, kD4_ap, kD5_ap, kD6_ap, wp_chain, kCn1_ap, kCn2_ap, kCnS_ap, kCn3_ap, kCn4_ap, d_sum, d_max1, d_min1, tp hs]
  rw [hl]
  refine wp_all_rows h1 h4 _ fun s2 hs2 => ?_
  have l4 : (allR n n).length ≤ 256 := by
    refine Nat.le_trans (allR_len n n) ?_
    refine Nat.le_trans (Nat.pow_le_pow_left h4 _) ?_
    exact Nat.le_trans (Nat.pow_le_pow_right (by decide) h4) (by decide)
  rcases hs2 with rfl | rfl
  all_goals
    nofun
    refine ⟨by omega, lc_pure zT (fun r => belB r w) zT _ _ _ (fun r hr => ?_) ?_⟩
    · simp (disch := (first | omega | (simp only [List.length_set, List.length_map, List.length_append, List.length_take, List.length_drop, rng_len]; omega))) only [wp_ret, wp_bad, wp_ok, wp_if, kR_ap, slP_imm, slP_lst, slP_ft, kE_ap, kI_ap, k1_ap, k2b_ap, k2_ap, k2s_ap, k3c_ap, k3b_ap, k3_ap, kOI_ap, kT_ap, kAnd_ap, kOr_ap, kNot_ap, kVA_ap, kVO_ap, kVN_ap, kIf_ap, kC2_ap, kC1_ap, kTup_ap, kLst_ap, kA_ap, kG2_ap, kG1_ap, kCall_ap, kSeq_nx, kSeq_rt, kSeq_bk, kSeq_ct, kSet_ap, kDrop_ap, kRt_ap, kNxE_ap, kAsg_ap, kFor_ap, kTurn_nx, kTurn_ct, kTurn_bk, kTurn_rt, kBody_ap, kWh_ap, kPar2_ap, kPar1_ap, kP3c_ap, kP3b_ap, kP3a_ap, kRg1_ap, kRg2b_ap, kRg2_ap, kSq_list, kSq_tuple, kEnum_ap, kZip2_ll, kZip1_ap, kLcE_ap, kLc_ap, kLt3_ap, kLt2_ap, kLt1_ap, kRun_nx, kRun_rt, vP_imm, vP_lst, vP_ft, wp_var, pP_imm, pP_lst, pP_ft, wp_peek, moP_ap, wp_move, lkP_imm, lkP_ft, wp_look, gsP_src, gsP_fT, gsP_ft, gsP_imm, wp_gSrc, gnP_imm, gnP_ft, gnP_lst, wp_gNm, gfP_dT, gfP_fT, wp_gFrz, kGt_dT, kGt_imm, kGt_ft, wp_gTmp, wp_C, wp_E, wp_I, wp_1, wp_2, wp_2s, wp_3, wp_oN, wp_oS, wp_T, wp_and, wp_or, wp_not, wp_yes, wp_mIf, wp_vAnd, wp_vOr, wp_vNot, wp_aNil, wp_aCons, wp_tup, wp_lst, wp_A, wp_tupRg, wp_lstRg, wp_gNil, wp_gCons, wp_call, wp_lc, wp_wSeq, wp_wEnum, wp_wZip, wp_wRange1, wp_wRange2, wp_sNx, wp_sBk, wp_sCt, wp_sRetN, wp_seq, wp_set, wp_drop, wp_sRet, wp_sIf, wp_asg, wp_tgName, wp_tgTup, wp_tgAll0, wp_tgAll1, wp_tgN1, wp_tgNs, wp_tgG, wp_tgS0, kTgS_ap, wp_tgS1, wp_sFor, wp_par, wp_par3, wp_run, kIx_ap, isLst_ap, wp_tgIx, kAp_ap, wp_append, kPo_ap, wp_popAt, d_add, d_addb, d_addT, d_addL, d_sub, d_mul, d_mulL, d_fdiv, d_mod, d_pow, d_neg, d_lt, d_le, d_gt, d_ge, d_eq, d_ne, d_eqT, d_neT, d_eqL, d_neL, d_eqT0, d_neT0, d_eqL0, d_neL0, d_eqS, d_neS, d_isN, d_isntN, d_lenT, d_lenL, d_abs, d_int, d_intb, d_tupT, d_tupL, tupP_ft, d_listT, d_listL, d_max, d_min, d_ixT, d_ixL, d_slT, d_slL, cut_to, cut_from, d_revL, d_revT, d_repr, wp_pk, wp_tup0, wp_wipe, wp_wipe0, wp_rest, wp_rest0, ix_zs, ap_zs, ap_z0, po_zs, at0_nat, at0_nat1, toN1, toN2, Int.toNat_natCast, rangeD_rng, rangeD_sub, d_sort, d_sortT, wp_dnewT, kDg2_ap, kDg1_ap, dkO_dT, dkO_fT, isSome_some, wp_dget2, kDp2_ap, kDp1_ap, wp_dput, kDE_lst, kDE_imm, kDE_ft, wp_dictE, List.getElem?_cons_zero, List.getElem?_cons_succ, List.set_cons_zero, List.set_cons_succ, List.length_cons, List.length_nil, List.length_map, List.map_cons, List.map_nil, List.replicate_succ, List.replicate_zero, List.nil_append, List.cons_append, Nat.reduceSub, Nat.reduceAdd, Nat.reduceLeDiff, Nat.reduceLT, Nat.zero_add, Nat.sub_self, decide_eq_true_eq, Bool.not_eq_true', decide_eq_false_iff_not, ite_true, ite_false, if_true, if_false, reduceIte, Bool.true_eq_false, Bool.false_eq_true, and_true, true_and, true_implies, not_true_eq_false, not_false_eq_true, Int.reduceLE, Int.reduceLT, gt_iff_lt, wp_indexT, itP_ft, itP_it, kIt_ap, kIr_ap, wp_disp2, kD1_ap, kD2_ap, kD3_ap, kD4_ap, kD5_ap, kD6_ap, wp_chain, kCn1_ap, kCn2_ap, kCnS_ap, kCn3_ap, kCn4_ap, d_sum, d_max1, d_min1, tgn hs]
      refine wp_below2 (allR_rows.mp hr) hw h1 (by omega) (.inr rfl) hs _ (fun hb => ?_) (fun hb => ?_)
      · nofun
        rw [belB_t hb]
        rfl
      · nofun
        rw [belB_f hb]
        rfl
    · nofun
      exact k
/-! ### steps up: rows come out -/
def StepD (n : Nat) (d : PyData) : Prop := ∃ (i j : Int) (r : List Int), d = .tuple [.tuple [.int i, .int j], zT r] ∧ IsRow n r
theorem exch_row {n i j : Nat} {u : List Int} (hu : IsRow n u) (hi : i < j) (hj : j < n) : IsRow n ((u.set i (u.getD j 0)).set j (u.getD i 0)) := by
  have hl := hu.len
  obtain ⟨A, x, M, y, B, rfl, rfl, rfl⟩ : ∃ (A : List Int) (x : Int) (M : List Int) (y : Int) (B : List Int), u = A ++ x :: (M ++ y :: B) ∧ A.length = i ∧ A.length + 1 + M.length = j := by
    refine ⟨u.take i, u[i], (u.drop (i + 1)).take (j - i - 1), u[j], u.drop (j + 1), ?_, by rw [List.length_take]; omega, by rw [List.length_take, List.length_take, List.length_drop]; omega⟩
    have e1 : u = u.take i ++ u.drop i := (List.take_append_drop i u).symm
    have e2 : u.drop i = u[i] :: u.drop (i + 1) := List.drop_eq_getElem_cons (by omega)
    have e3 : u.drop (i + 1) = (u.drop (i + 1)).take (j - i - 1) ++ (u.drop (i + 1)).drop (j - i - 1) := (List.take_append_drop _ _).symm
    have e4 : (u.drop (i + 1)).drop (j - i - 1) = u[j] :: u.drop (j + 1) := by
      rw [List.drop_drop, show i + 1 + (j - i - 1) = j by omega]
      exact List.drop_eq_getElem_cons (by omega)
    rw [← e4, ← e3, ← e2]
    exact e1
  have g1 : (A ++ x :: (M ++ y :: B)).getD A.length 0 = x := by simp [List.getD_eq_getElem?_getD]
  have g2 : (A ++ x :: (M ++ y :: B)).getD (A.length + 1 + M.length) 0 = y := by
    have : A ++ x :: (M ++ y :: B) = (A ++ x :: M) ++ y :: B := by simp
    rw [this, show A.length + 1 + M.length = (A ++ x :: M).length by simp; omega]
    simp [List.getD_eq_getElem?_getD]
  rw [g1, g2]
  have s1 : (A ++ x :: (M ++ y :: B)).set A.length y = A ++ y :: (M ++ y :: B) := by simp
  have s2 : (A ++ y :: (M ++ y :: B)).set (A.length + 1 + M.length) x = A ++ y :: (M ++ x :: B) := by
    have : A ++ y :: (M ++ y :: B) = (A ++ y :: M) ++ y :: B := by simp
    rw [this, show A.length + 1 + M.length = (A ++ y :: M).length by simp; omega]
    simp
  rw [s1, s2]
  refine ⟨List.Perm.trans ?_ hu.perm⟩
  refine List.Perm.append_left A ?_
  have p1 : (y :: (M ++ x :: B)).Perm (y :: x :: (M ++ B)) := List.Perm.cons y List.perm_middle
  have p2 : (x :: (M ++ y :: B)).Perm (x :: y :: (M ++ B)) := List.Perm.cons x List.perm_middle
  exact p1.trans ((List.Perm.swap x y _).trans p2.symm)
end T

set_option Elab.async false
set_option linter.all false
set_option autoImplicit false
set_option maxRecDepth 100000
namespace T
open PySem PySem.Spec L2 PV
local macro_rules | `(tactic| nofun) => `(tactic| simp (disch := (first | omega | (simp only [List.length_set, List.length_map, List.length_append, List.length_take, List.length_drop, rng_len]; omega))) only [wp_ret, wp_bad, wp_ok, wp_if, kR_ap, slP_imm, slP_lst, slP_ft, kE_ap, kI_ap, k1_ap, k2b_ap, k2_ap, k2s_ap, k3c_ap, k3b_ap, k3_ap, kOI_ap, kT_ap, kAnd_ap, kOr_ap, kNot_ap, kVA_ap, kVO_ap, kVN_ap, kIf_ap, kC2_ap, kC1_ap, kTup_ap, kLst_ap, kA_ap, kG2_ap, kG1_ap, kCall_ap, kSeq_nx, kSeq_rt, kSeq_bk, kSeq_ct, kSet_ap, kDrop_ap, kRt_ap, kNxE_ap, kAsg_ap, kFor_ap, kTurn_nx, kTurn_ct, kTurn_bk, kTurn_rt, kBody_ap, kWh_ap, kPar2_ap, kPar1_ap, kP3c_ap, kP3b_ap, kP3a_ap, kRg1_ap, kRg2b_ap, kRg2_ap, kSq_list, kSq_tuple, kEnum_ap, kZip2_ll, kZip1_ap, kLcE_ap, kLc_ap, kLt3_ap, kLt2_ap, kLt1_ap, kRun_nx, kRun_rt, vP_imm, vP_lst, vP_ft, wp_var, pP_imm, pP_lst, pP_ft, wp_peek, moP_ap, wp_move, lkP_imm, lkP_ft, wp_look, gsP_src, gsP_fT, gsP_ft, gsP_imm, wp_gSrc, gnP_imm, gnP_ft, gnP_lst, wp_gNm, gfP_dT, gfP_fT, wp_gFrz, kGt_dT, kGt_imm, kGt_ft, wp_gTmp, wp_C, wp_E, wp_I, wp_1, wp_2, wp_2s, wp_3, wp_oN, wp_oS, wp_T, wp_and, wp_or, wp_not, wp_yes, wp_mIf, wp_vAnd, wp_vOr, wp_vNot, wp_aNil, wp_aCons, wp_tup, wp_lst, wp_A, wp_tupRg, wp_lstRg, wp_gNil, wp_gCons, wp_call, wp_lc, wp_wSeq, wp_wEnum, wp_wZip, wp_wRange1, wp_wRange2, wp_sNx, wp_sBk, wp_sCt, wp_sRetN, wp_seq, wp_set, wp_drop, wp_sRet, wp_sIf, wp_asg, wp_tgName, wp_tgTup, wp_tgAll0, wp_tgAll1, wp_tgN1, wp_tgNs, wp_tgG, wp_tgS0, kTgS_ap, wp_tgS1, wp_sFor, wp_par, wp_par3, wp_run, kIx_ap, isLst_ap, wp_tgIx, kAp_ap, wp_append, kPo_ap, wp_popAt, d_add, d_addb, d_addT, d_addL, d_sub, d_mul, d_mulL, d_fdiv, d_mod, d_pow, d_neg, d_lt, d_le, d_gt, d_ge, d_eq, d_ne, d_eqT, d_neT, d_eqL, d_neL, d_eqT0, d_neT0, d_eqL0, d_neL0, d_eqS, d_neS, d_isN, d_isntN, d_lenT, d_lenL, d_abs, d_int, d_intb, d_tupT, d_tupL, tupP_ft, d_listT, d_listL, d_max, d_min, d_ixT, d_ixL, d_slT, d_slL, cut_to, cut_from, d_revL, d_revT, d_repr, wp_pk, wp_tup0, wp_wipe, wp_wipe0, wp_rest, wp_rest0, ix_zs, ap_zs, ap_z0, po_zs, at0_nat, at0_nat1, toN1, toN2, Int.toNat_natCast, rangeD_rng, rangeD_sub, d_sort, d_sortT, wp_dnewT, kDg2_ap, kDg1_ap, dkO_dT, dkO_fT, isSome_some, wp_dget2, kDp2_ap, kDp1_ap, wp_dput, kDE_lst, kDE_imm, kDE_ft, wp_dictE, List.getElem?_cons_zero, List.getElem?_cons_succ, List.set_cons_zero, List.set_cons_succ, List.length_cons, List.length_nil, List.length_map, List.map_cons, List.map_nil, List.replicate_succ, List.replicate_zero, List.nil_append, List.cons_append, Nat.reduceSub, Nat.reduceAdd, Nat.reduceLeDiff, Nat.reduceLT, Nat.zero_add, Nat.sub_self, decide_eq_true_eq, Bool.not_eq_true', decide_eq_false_iff_not, ite_true, ite_false, if_true, if_false, reduceIte, Bool.true_eq_false, Bool.false_eq_true, and_true, true_and, true_implies, not_true_eq_false, not_false_eq_true, Int.reduceLE, Int.reduceLT, gt_iff_lt, wp_indexT, itP_ft, itP_it, kIt_ap, kIr_ap, wp_disp2, kD1_ap, kD2_ap, kD3_ap, kD4_ap, kD5_ap, kD6_ap, wp_chain, kCn1_ap, kCn2_ap, kCnS_ap, kCn3_ap, kCn4_ap, d_sum, d_max1, d_min1])
theorem cut_zs (u : List Int) (lo hi : Option Int) : ∃ M : List Int, cutD (u.map PyData.int) lo hi = M.map PyData.int ∧ M.length ≤ u.length := by
  unfold cutD
  refine ⟨(u.drop _).take _, by rw [List.map_take, List.map_drop], ?_⟩
  rw [List.length_take, List.length_drop]
  omega
theorem wp_steps {n : Nat} {u : List Int} {s0 : Sl} (hu : IsRow n u) (h1 : 1 ≤ n) (h12 : n ≤ 12) (h0 : TupS s0 (zs u)) (K : Sl → Prop) (k : ∀ L : List PyData, (∀ d ∈ L, StepD n d) → L.length ≤ 144 → K (.lst L)) : WP (w__law_steps [s0]) K := by
  rw [w__law_steps_def, wp_run]
  unfold m__law_steps
  have hl := hu.len
  simp (disch := (first | omega | (simp only [List.length_set, List.length_map, List.length_append, List.length_take, List.length_drop, rng_len]; omega))) only [wp_ret, wp_bad, wp_ok, wp_if, kR_ap, slP_imm, slP_lst, slP_ft, kE_ap, kI_ap, k1_ap, k2b_ap, k2_ap, k2s_ap, k3c_ap, k3b_ap, k3_ap, kOI_ap, kT_ap, kAnd_ap, kOr_ap, kNot_ap, kVA_ap, kVO_ap, kVN_ap, kIf_ap, kC2_ap, kC1_ap, kTup_ap, kLst_ap, kA_ap, kG2_ap, kG1_ap, kCall_ap, kSeq_nx, kSeq_rt, kSeq_bk, kSeq_ct, kSet_ap, kDrop_ap, kRt_ap, kNxE_ap, kAsg_ap, kFor_ap, kTurn_nx, kTurn_ct, kTurn_bk, kTurn_rt, kBody_ap, kWh_ap, kPar2_ap, kPar1_ap, kP3c_ap, kP3b_ap, kP3a_ap, kRg1_ap, kRg2b_ap, kRg2_ap, kSq_list, kSq_tuple, kEnum_ap, kZip2_ll, kZip1_ap, kLcE_ap, kLc_ap, kLt3_ap, kLt2_ap, kLt1_ap, kRun_nx, kRun_rt, vP_imm, vP_lst, vP_ft, wp_var, pP_imm, pP_lst, pP_ft, wp_peek, moP_ap, wp_move, lkP_imm, lkP_ft, wp_look, gsP_src, gsP_fT, gsP_ft, gsP_imm, wp_gSrc, gnP_imm, gnP_ft, gnP_lst, wp_gNm, gfP_dT, gfP_fT, wp_gFrz, kGt_dT, kGt_imm, kGt_ft, wp_gTmp, wp_C, wp_E, wp_I, wp_1, wp_2, wp_2s, wp_3, wp_oN, wp_oS, wp_T, wp_and, wp_or, wp_not, wp_yes, wp_mIf, wp_vAnd, wp_vOr, wp_vNot, wp_aNil, wp_aCons, wp_tup, wp_lst, wp_A, wp_tupRg, wp_lstRg, wp_gNil, wp_gCons, wp_call, wp_lc, wp_wSeq, wp_wEnum, wp_wZip, wp_wRange1, wp_wRange2, wp_sNx, wp_sBk, wp_sCt, wp_sRetN, wp_seq, wp_set, wp_drop, wp_sRet, wp_sIf, wp_asg, wp_tgName, wp_tgTup, wp_tgAll0, wp_tgAll1, wp_tgN1, wp_tgNs, wp_tgG, wp_tgS0, kTgS_ap, wp_tgS1, wp_sFor, wp_par, wp_par3, wp_run, kIx_ap, isLst_ap, wp_tgIx, kAp_ap, wp_append, kPo_ap, wp_popAt, d_add, d_addb, d_addT, d_addL, d_sub, d_mul, d_mulL, d_fdiv, d_mod, d_pow, d_neg, d_lt, d_le, d_gt, d_ge, d_eq, d_ne, d_eqT, d_neT, d_eqL, d_neL, d_eqT0, d_neT0, d_eqL0, d_neL0, d_eqS, d_neS, d_isN, d_isntN, d_lenT, d_lenL, d_abs, d_int, d_intb, d_tupT, d_tupL, tupP_ft, d_listT, d_listL, d_max, d_min, d_ixT, d_ixL, d_slT, d_slL, cut_to, cut_from, d_revL, d_revT, d_repr, wp_pk, wp_tup0, wp_wipe, wp_wipe0, wp_rest, wp_rest0, ix_zs, ap_zs, ap_z0, po_zs, at0_nat, at0_nat1, toN1, toN2, Int.toNat_natCast, rangeD_rng, rangeD_sub, d_sort, d_sortT, wp_dnewT, kDg2_ap, kDg1_ap, dkO_dT, dkO_fT, isSome_some, wp_dget2, kDp2_ap, kDp1_ap, wp_dput, kDE_lst, kDE_imm, kDE_ft, wp_dictE, List.getElem?_cons_zero, List.getElem?_cons_succ, List.set_cons_zero, List.set_cons_succ, List.length_cons, List.length_nil, List.length_map, List.map_cons, List.map_nil, List.replicate_succ, List.replicate_zero, List.nil_append, List.cons_append, Nat.reduceSub, Nat.reduceAdd, Nat.reduceLeDiff, Nat.reduceLT, Nat.zero_add, Nat.sub_self, decide_eq_true_eq, Bool.not_eq_true', decide_eq_false_iff_not, ite_true, ite_false, if_true, if_false, reduceIte, Bool.true_eq_false, Bool.false_eq_true, and_true, true_and, true_implies, not_true_eq_false, not_false_eq_true, Int.reduceLE, Int.reduceLT, gt_iff_lt, wp_indexT, itP_ft, itP_it, kIt_ap, kIr_ap, wp_disp2, kD1_ap, kD2_ap, kD3_ap, kD4_ap, kD5_ap, kD6_ap, wp_chain, kCn1_ap, kCn2_ap, kCnS_ap, kCn3_ap, kCn4_ap, d_sum, d_max1, d_min1, tp h0]
  rw [hl]
  refine ⟨by omega, ?_⟩
  refine for_inv PyData.int (fun d env => ∃ L e2 e3 e4, env = [some s0, some (.lst L), e2, e3, e4] ∧ (∀ d ∈ L, StepD n d) ∧ L.length ≤ d.length * n ∧ d.length ≤ n) (rng n) [] _ ⟨[], _, _, _, rfl, (fun d hd => by simp at hd), Nat.zero_le _, Nat.zero_le _⟩ ?_ ?_
  · rintro d x rest env e ⟨L, e2, e3, e4, rfl, hL, hlen, hdl⟩
    have hx : x ∈ rng n := by rw [List.nil_append] at e; rw [e]; simp
    have hdl' : d.length < n := by
      have := congrArg List.length e
      simp only [List.nil_append, List.length_append, List.length_cons, rng_len] at this
      omega
    rw [mem_rng] at hx
    obtain ⟨i, rfl⟩ : ∃ i : Nat, x = (i : Int) := ⟨x.toNat, by omega⟩
    have er : rangeD ((i : Int) + 1) (n : Int) = (List.range (n - (i + 1))).map fun t => PyData.int ((i : Int) + 1 + (t : Nat)) := by
      unfold rangeD
      rw [show ((n : Int) - ((i : Int) + 1)).toNat = n - (i + 1) by omega]
    simp (disch := (first | omega | (simp only [List.length_set, List.length_map, List.length_append, List.length_take, List.length_drop, rng_len]; omega))) only [wp_ret, wp_bad, wp_ok, wp_if, kR_ap, slP_imm, slP_lst, slP_ft, kE_ap, kI_ap, k1_ap, k2b_ap, k2_ap, k2s_ap, k3c_ap, k3b_ap, k3_ap, kOI_ap, kT_ap, kAnd_ap, kOr_ap, kNot_ap, kVA_ap, kVO_ap, kVN_ap, kIf_ap, kC2_ap, kC1_ap, kTup_ap, kLst_ap, kA_ap, kG2_ap, kG1_ap, kCall_ap, kSeq_nx, kSeq_rt, kSeq_bk, kSeq_ct, kSet_ap, kDrop_ap, kRt_ap, kNxE_ap, kAsg_ap, kFor_ap, kTurn_nx, kTurn_ct, kTurn_bk, kTurn_rt, kBody_ap, kWh_ap, kPar2_ap, kPar1_ap, kP3c_ap, kP3b_ap, kP3a_ap, kRg1_ap, kRg2b_ap, kRg2_ap, kSq_list, kSq_tuple, kEnum_ap, kZip2_ll, kZip1_ap, kLcE_ap, kLc_ap, kLt3_ap, kLt2_ap, kLt1_ap, kRun_nx, kRun_rt, vP_imm, vP_lst, vP_ft, wp_var, pP_imm, pP_lst, pP_ft, wp_peek, moP_ap, wp_move, lkP_imm, lkP_ft, wp_look, gsP_src, gsP_fT, gsP_ft, gsP_imm, wp_gSrc, gnP_imm, gnP_ft, gnP_lst, wp_gNm, gfP_dT, gfP_fT, wp_gFrz, kGt_dT, kGt_imm, kGt_ft, wp_gTmp, wp_C, wp_E, wp_I, wp_1, wp_2, wp_2s, wp_3, wp_oN, wp_oS, wp_T, wp_and, wp_or, wp_not, wp_yes, wp_mIf, wp_vAnd, wp_vOr, wp_vNot, wp_aNil, wp_aCons, wp_tup, wp_lst, wp_A, wp_tupRg, wp_lstRg, wp_gNil, wp_gCons, wp_call, wp_lc, wp_wSeq, wp_wEnum, wp_wZip, wp_wRange1, wp_wRange2, wp_sNx, wp_sBk, wp_sCt, wp_sRetN, wp_seq, wp_set, wp_drop, wp_sRet, wp_sIf, wp_asg, wp_tgName, wp_tgTup, wp_tgAll0, wp_tgAll1, wp_tgN1, wp_tgNs, wp_tgG, wp_tgS0, kTgS_ap, wp_tgS1, wp_sFor, wp_par, wp_par3, wp_run, kIx_ap, isLst_ap, wp_tgIx, kAp_ap, wp_append, kPo_ap, wp_popAt, d_add, d_addb, d_addT, d_addL, d_sub, d_mul, d_mulL, d_fdiv, d_mod, d_pow, d_neg, d_lt, d_le, d_gt, d_ge, d_eq, d_ne, d_eqT, d_neT, d_eqL, d_neL, d_eqT0, d_neT0, d_eqL0, d_neL0, d_eqS, d_neS, d_isN, d_isntN, d_lenT, d_lenL, d_abs, d_int, d_intb, d_tupT, d_tupL, tupP_ft, d_listT, d_listL, d_max, d_min, d_ixT, d_ixL, d_slT, d_slL, cut_to, cut_from, d_revL, d_revT, d_repr, wp_pk, wp_tup0, wp_wipe, wp_wipe0, wp_rest, wp_rest0, ix_zs, ap_zs, ap_z0, po_zs, at0_nat, at0_nat1, toN1, toN2, Int.toNat_natCast, rangeD_rng, rangeD_sub, d_sort, d_sortT, wp_dnewT, kDg2_ap, kDg1_ap, dkO_dT, dkO_fT, isSome_some, wp_dget2, kDp2_ap, kDp1_ap, wp_dput, kDE_lst, kDE_imm, kDE_ft, wp_dictE, List.getElem?_cons_zero, List.getElem?_cons_succ, List.set_cons_zero, List.set_cons_succ, List.length_cons, List.length_nil, List.length_map, List.map_cons, List.map_nil, List.replicate_succ, List.replicate_zero, List.nil_append, List.cons_append, Nat.reduceSub, Nat.reduceAdd, Nat.reduceLeDiff, Nat.reduceLT, Nat.zero_add, Nat.sub_self, decide_eq_true_eq, Bool.not_eq_true', decide_eq_false_iff_not, ite_true, ite_false, if_true, if_false, reduceIte, Bool.true_eq_false, Bool.false_eq_true, and_true, true_and, true_implies, not_true_eq_false, not_false_eq_true, Int.reduceLE, Int.reduceLT, gt_iff_lt, wp_indexT, itP_ft, itP_it, kIt_ap, kIr_ap, wp_disp2, kD1_ap, kD2_ap, kD3_ap, kD4_ap, kD5_ap, kD6_ap, wp_chain, kCn1_ap, kCn2_ap, kCnS_ap, kCn3_ap, kCn4_ap, d_sum, d_max1, d_min1, tp h0]
    rw [hl, er]
    refine ⟨by omega, ?_⟩
    refine for_inv (fun t : Nat => PyData.int ((i : Int) + 1 + (t : Nat))) (fun d2 env => ∃ L e3 e4, env = [some s0, some (.lst L), some (.imm (.int (i : Nat))), e3, e4] ∧ (∀ d ∈ L, StepD n d) ∧ L.length ≤ d.length * n + d2.length) (List.range (n - (i + 1))) [] _ ⟨L, _, _, rfl, hL, hlen⟩ ?_ ?_
    · rintro d2 t rest2 env e5 ⟨L, e3, e4, rfl, hL, hlen⟩
      have ht : t < n - (i + 1) := by
        have : t ∈ List.range (n - (i + 1)) := by rw [List.nil_append] at e5; rw [e5]; simp
        exact List.mem_range.mp this
      have ej : (i : Int) + 1 + (t : Nat) = ((i + 1 + t : Nat) : Int) := by omega
      rw [ej]
      simp (disch := (first | omega | (simp only [List.length_set, List.length_map, List.length_append, List.length_take, List.length_drop, rng_len]; omega))) only [wp_ret, wp_bad, wp_ok, wp_if, kR_ap, slP_imm, slP_lst, slP_ft, kE_ap, kI_ap, k1_ap, k2b_ap, k2_ap, k2s_ap, k3c_ap, k3b_ap, k3_ap, kOI_ap, kT_ap, kAnd_ap, kOr_ap, kNot_ap, kVA_ap, kVO_ap, kVN_ap, kIf_ap, kC2_ap, kC1_ap, kTup_ap, kLst_ap, kA_ap, kG2_ap, kG1_ap, kCall_ap, kSeq_nx, kSeq_rt, kSeq_bk, kSeq_ct, kSet_ap, kDrop_ap, kRt_ap, kNxE_ap, kAsg_ap, kFor_ap, kTurn_nx, kTurn_ct, kTurn_bk, kTurn_rt, kBody_ap, kWh_ap, kPar2_ap, kPar1_ap, kP3c_ap, kP3b_ap, kP3a_ap, kRg1_ap, kRg2b_ap, kRg2_ap, kSq_list, kSq_tuple, kEnum_ap, kZip2_ll, kZip1_ap, kLcE_ap, kLc_ap, kLt3_ap, kLt2_ap, kLt1_ap, kRun_nx, kRun_rt, vP_imm, vP_lst, vP_ft, wp_var, pP_imm, pP_lst, pP_ft, wp_peek, moP_ap, wp_move, lkP_imm, lkP_ft, wp_look, gsP_src, gsP_fT, gsP_ft, gsP_imm, wp_gSrc, gnP_imm, gnP_ft, gnP_lst, wp_gNm, gfP_dT, gfP_fT, wp_gFrz, kGt_dT, kGt_imm, kGt_ft, wp_gTmp, wp_C, wp_E, wp_I, wp_1, wp_2, wp_2s, wp_3, wp_oN, wp_oS, wp_T, wp_and, wp_or, wp_not, wp_yes, wp_mIf, wp_vAnd, wp_vOr, wp_vNot, wp_aNil, wp_aCons, wp_tup, wp_lst, wp_A, wp_tupRg, wp_lstRg, wp_gNil, wp_gCons, wp_call, wp_lc, wp_wSeq, wp_wEnum, wp_wZip, wp_wRange1, wp_wRange2, wp_sNx, wp_sBk, wp_sCt, wp_sRetN, wp_seq, wp_set, wp_drop, wp_sRet, wp_sIf, wp_asg, wp_tgName, wp_tgTup, wp_tgAll0, wp_tgAll1, wp_tgN1, wp_tgNs, wp_tgG, wp_tgS0, kTgS_ap, wp_tgS1, wp_sFor, wp_par, wp_par3, wp_run, kIx_ap, isLst_ap, wp_tgIx, kAp_ap, wp_append, kPo_ap, wp_popAt, d_add, d_addb, d_addT, d_addL, d_sub, d_mul, d_mulL, d_fdiv, d_mod, d_pow, d_neg, d_lt, d_le, d_gt, d_ge, d_eq, d_ne, d_eqT, d_neT, d_eqL, d_neL, d_eqT0, d_neT0, d_eqL0, d_neL0, d_eqS, d_neS, d_isN, d_isntN, d_lenT, d_lenL, d_abs, d_int, d_intb, d_tupT, d_tupL, tupP_ft, d_listT, d_listL, d_max, d_min, d_ixT, d_ixL, d_slT, d_slL, cut_to, cut_from, d_revL, d_revT, d_repr, wp_pk, wp_tup0, wp_wipe, wp_wipe0, wp_rest, wp_rest0, ix_zs, ap_zs, ap_z0, po_zs, at0_nat, at0_nat1, toN1, toN2, Int.toNat_natCast, rangeD_rng, rangeD_sub, d_sort, d_sortT, wp_dnewT, kDg2_ap, kDg1_ap, dkO_dT, dkO_fT, isSome_some, wp_dget2, kDp2_ap, kDp1_ap, wp_dput, kDE_lst, kDE_imm, kDE_ft, wp_dictE, List.getElem?_cons_zero, List.getElem?_cons_succ, List.set_cons_zero, List.set_cons_succ, List.length_cons, List.length_nil, List.length_map, List.map_cons, List.map_nil, List.replicate_succ, List.replicate_zero, List.nil_append, List.cons_append, Nat.reduceSub, Nat.reduceAdd, Nat.reduceLeDiff, Nat.reduceLT, Nat.zero_add, Nat.sub_self, decide_eq_true_eq, Bool.not_eq_true', decide_eq_false_iff_not, ite_true, ite_false, if_true, if_false, reduceIte, Bool.true_eq_false, Bool.false_eq_true, and_true, true_and, true_implies, not_true_eq_false, not_false_eq_true, Int.reduceLE, Int.reduceLT, gt_iff_lt, wp_indexT, itP_ft, itP_it, kIt_ap, kIr_ap, wp_disp2, kD1_ap, kD2_ap, kD3_ap, kD4_ap, kD5_ap, kD6_ap, wp_chain, kCn1_ap, kCn2_ap, kCnS_ap, kCn3_ap, kCn4_ap, d_sum, d_max1, d_min1, tp h0]
      by_cases c : u.getD i 0 < u.getD (i + 1 + t) 0
      · rw [if_pos c]
        obtain ⟨M, eM, lM⟩ := cut_zs u (some ((i : Int) + 1)) (some ((i + 1 + t : Nat) : Int))
        rw [show zs u = u.map PyData.int from rfl, eM]
        refine ⟨by rw [List.length_map]; omega, ?_⟩
        refine lc_pure PyData.int (fun y => decide (u.getD i 0 < y) && decide (y < u.getD (i + 1 + t) 0)) PyData.int _ _ _ (fun y hy => ?_) ?_
        · simp (disch := (first | omega | (simp only [List.length_set, List.length_map, List.length_append, List.length_take, List.length_drop, rng_len]; omega))) only [wp_ret, wp_bad, wp_ok, wp_if, kR_ap, slP_imm, slP_lst, slP_ft, kE_ap, kI_ap, k1_ap, k2b_ap, k2_ap, k2s_ap, k3c_ap, k3b_ap, k3_ap, kOI_ap, kT_ap, kAnd_ap, kOr_ap, kNot_ap, kVA_ap, kVO_ap, kVN_ap, kIf_ap, kC2_ap, kC1_ap, kTup_ap, kLst_ap, kA_ap, kG2_ap, kG1_ap, kCall_ap, kSeq_nx, kSeq_rt, kSeq_bk, kSeq_ct, kSet_ap, kDrop_ap, kRt_ap, kNxE_ap, kAsg_ap, kFor_ap, kTurn_nx, kTurn_ct, kTurn_bk, kTurn_rt, kBody_ap, kWh_ap, kPar2_ap, kPar1_ap, kP3c_ap, kP3b_ap, kP3a_ap, kRg1_ap, kRg2b_ap, kRg2_ap, kSq_list, kSq_tuple, kEnum_ap, kZip2_ll, kZip1_ap, kLcE_ap, kLc_ap, kLt3_ap, kLt2_ap, kLt1_ap, kRun_nx, kRun_rt, vP_imm, vP_lst, vP_ft, wp_var, pP_imm, pP_lst, pP_ft, wp_peek, moP_ap, wp_move, lkP_imm, lkP_ft, wp_look, gsP_src, gsP_fT, gsP_ft, gsP_imm, wp_gSrc, gnP_imm, gnP_ft, gnP_lst, wp_gNm, gfP_dT, gfP_fT, wp_gFrz, kGt_dT, kGt_imm, kGt_ft, wp_gTmp, wp_C, wp_E, wp_I, wp_1, wp_2, wp_2s, wp_3, wp_oN, wp_oS, wp_T, wp_and, wp_or, wp_not, wp_yes, wp_mIf, wp_vAnd, wp_vOr, wp_vNot, wp_aNil, wp_aCons, wp_tup, wp_lst, wp_A, wp_tupRg, wp_lstRg, wp_gNil, wp_gCons, wp_call, wp_lc, wp_wSeq, wp_wEnum, wp_wZip, wp_wRange1, wp_wRange2, wp_sNx, wp_sBk, wp_sCt, wp_sRetN, wp_seq, wp_set, wp_drop, wp_sRet, wp_sIf, wp_asg, wp_tgName, wp_tgTup, wp_tgAll0, wp_tgAll1, wp_tgN1, wp_tgNs, wp_tgG, wp_tgS0, kTgS_ap, wp_tgS1, wp_sFor, wp_par, wp_par3, wp_run, kIx_ap, isLst_ap, wp_tgIx, kAp_ap, wp_append, kPo_ap, wp_popAt, d_add, d_addb, d_addT, d_addL, d_sub, d_mul, d_mulL, d_fdiv, d_mod, d_pow, d_neg, d_lt, d_le, d_gt, d_ge, d_eq, d_ne, d_eqT, d_neT, d_eqL, d_neL, d_eqT0, d_neT0, d_eqL0, d_neL0, d_eqS, d_neS, d_isN, d_isntN, d_lenT, d_lenL, d_abs, d_int, d_intb, d_tupT, d_tupL, tupP_ft, d_listT, d_listL, d_max, d_min, d_ixT, d_ixL, d_slT, d_slL, cut_to, cut_from, d_revL, d_revT, d_repr, wp_pk, wp_tup0, wp_wipe, wp_wipe0, wp_rest, wp_rest0, ix_zs, ap_zs, ap_z0, po_zs, at0_nat, at0_nat1, toN1, toN2, Int.toNat_natCast, rangeD_rng, rangeD_sub, d_sort, d_sortT, wp_dnewT, kDg2_ap, kDg1_ap, dkO_dT, dkO_fT, isSome_some, wp_dget2, kDp2_ap, kDp1_ap, wp_dput, kDE_lst, kDE_imm, kDE_ft, wp_dictE, List.getElem?_cons_zero, List.getElem?_cons_succ, List.set_cons_zero, List.set_cons_succ, List.length_cons, List.length_nil, List.length_map, List.map_cons, List.map_nil, List.replicate_succ, List.replicate_zero, List.nil_append, List.cons_append, Nat.reduceSub, Nat.reduceAdd, Nat.reduceLeDiff, Nat.reduceLT, Nat.zero_add, Nat.sub_self, decide_eq_true_eq, Bool.not_eq_true', decide_eq_false_iff_not, ite_true, ite_false, if_true, if_false, reduceIte, Bool.true_eq_false, Bool.false_eq_true, and_true, true_and, true_implies, not_true_eq_false, not_false_eq_true, Int.reduceLE, Int.reduceLT, gt_iff_lt, wp_indexT, itP_ft, itP_it, kIt_ap, kIr_ap, wp_disp2, kD1_ap, kD2_ap, kD3_ap, kD4_ap, kD5_ap, kD6_ap, wp_chain, kCn1_ap, kCn2_ap, kCnS_ap, kCn3_ap, kCn4_ap, d_sum, d_max1, d_min1, tp h0]
          by_cases c1 : u.getD i 0 < y
          · rw [if_pos c1]
            by_cases c2 : y < u.getD (i + 1 + t) 0
            · rw [if_pos c2, if_pos (by rw [decide_eq_true c1, decide_eq_true c2]; rfl)]
            · rw [if_neg c2, if_neg (by rw [decide_eq_false c2, Bool.and_false]; decide)]
          · rw [if_neg c1, if_neg (by rw [decide_eq_false c1, Bool.false_and]; decide)]
        · simp (disch := (first | omega | (simp only [List.length_set, List.length_map, List.length_append, List.length_take, List.length_drop, rng_len]; omega))) only [wp_ret, wp_bad, wp_ok, wp_if, kR_ap, slP_imm, slP_lst, slP_ft, kE_ap, kI_ap, k1_ap, k2b_ap, k2_ap, k2s_ap, k3c_ap, k3b_ap, k3_ap, kOI_ap, kT_ap, kAnd_ap, kOr_ap, kNot_ap, kVA_ap, kVO_ap, kVN_ap, kIf_ap, kC2_ap, kC1_ap, kTup_ap, kLst_ap, kA_ap, kG2_ap, kG1_ap, kCall_ap, kSeq_nx, kSeq_rt, kSeq_bk, kSeq_ct, kSet_ap, kDrop_ap, kRt_ap, kNxE_ap, kAsg_ap, kFor_ap, kTurn_nx, kTurn_ct, kTurn_bk, kTurn_rt, kBody_ap, kWh_ap, kPar2_ap, kPar1_ap, kP3c_ap, kP3b_ap, kP3a_ap, kRg1_ap, kRg2b_ap, kRg2_ap, kSq_list, kSq_tuple, kEnum_ap, kZip2_ll, kZip1_ap, kLcE_ap, kLc_ap, kLt3_ap, kLt2_ap, kLt1_ap, kRun_nx, kRun_rt, vP_imm, vP_lst, vP_ft, wp_var, pP_imm, pP_lst, pP_ft, wp_peek, moP_ap, wp_move, lkP_imm, lkP_ft, wp_look, gsP_src, gsP_fT, gsP_ft, gsP_imm, wp_gSrc, gnP_imm, gnP_ft, gnP_lst, wp_gNm, gfP_dT, gfP_fT, wp_gFrz, kGt_dT, kGt_imm, kGt_ft, wp_gTmp, wp_C, wp_E, wp_I, wp_1, wp_2, wp_2s, wp_3, wp_oN, wp_oS, wp_T, wp_and, wp_or, wp_not, wp_yes, wp_mIf, wp_vAnd, wp_vOr, wp_vNot, wp_aNil, wp_aCons, wp_tup, wp_lst, wp_A, wp_tupRg, wp_lstRg, wp_gNil, wp_gCons, wp_call, wp_lc, wp_wSeq, wp_wEnum, wp_wZip, wp_wRange1, wp_wRange2, wp_sNx, wp_sBk, wp_sCt, wp_sRetN, wp_seq, wp_set, wp_drop, wp_sRet, wp_sIf, wp_asg, wp_tgName, wp_tgTup, wp_tgAll0, wp_tgAll1, wp_tgN1, wp_tgNs, wp_tgG, wp_tgS0, kTgS_ap, wp_tgS1, wp_sFor, wp_par, wp_par3, wp_run, kIx_ap, isLst_ap, wp_tgIx, kAp_ap, wp_append, kPo_ap, wp_popAt, d_add, d_addb, d_addT, d_addL, d_sub, d_mul, d_mulL, d_fdiv, d_mod, d_pow, d_neg, d_lt, d_le, d_gt, d_ge, d_eq, d_ne, d_eqT, d_neT, d_eqL, d_neL, d_eqT0, d_neT0, d_eqL0, d_neL0, d_eqS, d_neS, d_isN, d_isntN, d_lenT, d_lenL, d_abs, d_int, d_intb, d_tupT, d_tupL, tupP_ft, d_listT, d_listL, d_max, d_min, d_ixT, d_ixL, d_slT, d_slL, cut_to, cut_from, d_revL, d_revT, d_repr, wp_pk, wp_tup0, wp_wipe, wp_wipe0, wp_rest, wp_rest0, ix_zs, ap_zs, ap_z0, po_zs, at0_nat, at0_nat1, toN1, toN2, Int.toNat_natCast, rangeD_rng, rangeD_sub, d_sort, d_sortT, wp_dnewT, kDg2_ap, kDg1_ap, dkO_dT, dkO_fT, isSome_some, wp_dget2, kDp2_ap, kDp1_ap, wp_dput, kDE_lst, kDE_imm, kDE_ft, wp_dictE, List.getElem?_cons_zero, List.getElem?_cons_succ, List.set_cons_zero, List.set_cons_succ, List.length_cons, List.length_nil, List.length_map, List.map_cons, List.map_nil, List.replicate_succ, List.replicate_zero, List.nil_append, List.cons_append, Nat.reduceSub, Nat.reduceAdd, Nat.reduceLeDiff, Nat.reduceLT, Nat.zero_add, Nat.sub_self, decide_eq_true_eq, Bool.not_eq_true', decide_eq_false_iff_not, ite_true, ite_false, if_true, if_false, reduceIte, Bool.true_eq_false, Bool.false_eq_true, and_true, true_and, true_implies, not_true_eq_false, not_false_eq_true, Int.reduceLE, Int.reduceLT, gt_iff_lt, wp_indexT, itP_ft, itP_it, kIt_ap, kIr_ap, wp_disp2, kD1_ap, kD2_ap, kD3_ap, kD4_ap, kD5_ap, kD6_ap, wp_chain, kCn1_ap, kCn2_ap, kCnS_ap, kCn3_ap, kCn4_ap, d_sum, d_max1, d_min1, tgn h0]
          split
          · refine wp_lexch hu (by omega) (by omega) h0 _ ?_
            nofun
            rw [apP_ap]
            nofun
            have bl : d.length * n ≤ 132 := Nat.le_trans (Nat.mul_le_mul_left _ h12) (by omega)
            have ld2 : d2.length ≤ n := by
              have := congrArg List.length e5
              simp only [List.nil_append, List.length_append, List.length_cons, List.length_range] at this
              omega
            refine ⟨by omega, _, _, _, rfl, fun q hq => ?_, by rw [List.length_append, List.length_append, List.length_cons, List.length_nil, List.length_cons, List.length_nil]; omega⟩
            rcases List.mem_append.mp hq with hq | hq
            · exact hL q hq
            · rw [List.mem_singleton] at hq
              subst hq
              exact ⟨_, _, _, rfl, exch_row hu (by omega) (by omega)⟩
          · exact ⟨L, _, _, rfl, hL, by rw [List.length_append, List.length_cons, List.length_nil]; omega⟩
      · rw [if_neg c]
        exact ⟨L, _, _, rfl, hL, by rw [List.length_append, List.length_cons, List.length_nil]; omega⟩
    · rintro env ⟨L, e3, e4, rfl, hL, hlen⟩
      nofun
      refine ⟨L, _, _, _, rfl, hL, ?_, ?_⟩
      · rw [List.nil_append, List.length_range] at hlen
        rw [List.length_append, List.length_cons, List.length_nil, Nat.add_mul]
        omega
      · rw [List.length_append, List.length_cons, List.length_nil]
        omega
  · rintro env ⟨L, e2, e3, e4, rfl, hL, hlen, hdl⟩
    nofun
    rw [List.nil_append, rng_len] at hlen
    refine k L hL (Nat.le_trans hlen ?_)
    exact Nat.mul_le_mul h12 h12
end T

set_option Elab.async false
set_option linter.all false
set_option autoImplicit false
set_option maxRecDepth 100000
namespace T
open PySem PySem.Spec L2 PV
local macro_rules | `(tactic| nofun) => `(tactic| simp (disch := (first | omega | (simp only [List.length_set, List.length_map, List.length_append, List.length_take, List.length_drop, rng_len]; omega))) only [wp_ret, wp_bad, wp_ok, wp_if, kR_ap, slP_imm, slP_lst, slP_ft, kE_ap, kI_ap, k1_ap, k2b_ap, k2_ap, k2s_ap, k3c_ap, k3b_ap, k3_ap, kOI_ap, kT_ap, kAnd_ap, kOr_ap, kNot_ap, kVA_ap, kVO_ap, kVN_ap, kIf_ap, kC2_ap, kC1_ap, kTup_ap, kLst_ap, kA_ap, kG2_ap, kG1_ap, kCall_ap, kSeq_nx, kSeq_rt, kSeq_bk, kSeq_ct, kSet_ap, kDrop_ap, kRt_ap, kNxE_ap, kAsg_ap, kFor_ap, kTurn_nx, kTurn_ct, kTurn_bk, kTurn_rt, kBody_ap, kWh_ap, kPar2_ap, kPar1_ap, kP3c_ap, kP3b_ap, kP3a_ap, kRg1_ap, kRg2b_ap, kRg2_ap, kSq_list, kSq_tuple, kEnum_ap, kZip2_ll, kZip1_ap, kLcE_ap, kLc_ap, kLt3_ap, kLt2_ap, kLt1_ap, kRun_nx, kRun_rt, vP_imm, vP_lst, vP_ft, wp_var, pP_imm, pP_lst, pP_ft, wp_peek, moP_ap, wp_move, lkP_imm, lkP_ft, wp_look, gsP_src, gsP_fT, gsP_ft, gsP_imm, wp_gSrc, gnP_imm, gnP_ft, gnP_lst, wp_gNm, gfP_dT, gfP_fT, wp_gFrz, kGt_dT, kGt_imm, kGt_ft, wp_gTmp, wp_C, wp_E, wp_I, wp_1, wp_2, wp_2s, wp_3, wp_oN, wp_oS, wp_T, wp_and, wp_or, wp_not, wp_yes, wp_mIf, wp_vAnd, wp_vOr, wp_vNot, wp_aNil, wp_aCons, wp_tup, wp_lst, wp_A, wp_tupRg, wp_lstRg, wp_gNil, wp_gCons, wp_call, wp_lc, wp_wSeq, wp_wEnum, wp_wZip, wp_wRange1, wp_wRange2, wp_sNx, wp_sBk, wp_sCt, wp_sRetN, wp_seq, wp_set, wp_drop, wp_sRet, wp_sIf, wp_asg, wp_tgName, wp_tgTup, wp_tgAll0, wp_tgAll1, wp_tgN1, wp_tgNs, wp_tgG, wp_tgS0, kTgS_ap, wp_tgS1, wp_sFor, wp_par, wp_par3, wp_run, kIx_ap, isLst_ap, wp_tgIx, kAp_ap, wp_append, kPo_ap, wp_popAt, d_add, d_addb, d_addT, d_addL, d_sub, d_mul, d_mulL, d_fdiv, d_mod, d_pow, d_neg, d_lt, d_le, d_gt, d_ge, d_eq, d_ne, d_eqT, d_neT, d_eqL, d_neL, d_eqT0, d_neT0, d_eqL0, d_neL0, d_eqS, d_neS, d_isN, d_isntN, d_lenT, d_lenL, d_abs, d_int, d_intb, d_tupT, d_tupL, tupP_ft, d_listT, d_listL, d_max, d_min, d_ixT, d_ixL, d_slT, d_slL, cut_to, cut_from, d_revL, d_revT, d_repr, wp_pk, wp_tup0, wp_wipe, wp_wipe0, wp_rest, wp_rest0, ix_zs, ap_zs, ap_z0, po_zs, at0_nat, at0_nat1, toN1, toN2, Int.toNat_natCast, rangeD_rng, rangeD_sub, d_sort, d_sortT, wp_dnewT, kDg2_ap, kDg1_ap, dkO_dT, dkO_fT, isSome_some, wp_dget2, kDp2_ap, kDp1_ap, wp_dput, kDE_lst, kDE_imm, kDE_ft, wp_dictE, List.getElem?_cons_zero, List.getElem?_cons_succ, List.set_cons_zero, List.set_cons_succ, List.length_cons, List.length_nil, List.length_map, List.map_cons, List.map_nil, List.replicate_succ, List.replicate_zero, List.nil_append, List.cons_append, Nat.reduceSub, Nat.reduceAdd, Nat.reduceLeDiff, Nat.reduceLT, Nat.zero_add, Nat.sub_self, decide_eq_true_eq, Bool.not_eq_true', decide_eq_false_iff_not, ite_true, ite_false, if_true, if_false, reduceIte, Bool.true_eq_false, Bool.false_eq_true, and_true, true_and, true_implies, not_true_eq_false, not_false_eq_true, Int.reduceLE, Int.reduceLT, gt_iff_lt, wp_indexT, itP_ft, itP_it, kIt_ap, kIr_ap, wp_disp2, kD1_ap, kD2_ap, kD3_ap, kD4_ap, kD5_ap, kD6_ap, wp_chain, kCn1_ap, kCn2_ap, kCnS_ap, kCn3_ap, kCn4_ap, d_sum, d_max1, d_min1])
theorem canLay_all (L : List PyData) (h : ∀ d ∈ L, d.canLay0 = true) : PyData.canLayAll0 L = true := by
  induction L with
  | nil => rfl
  | cons d L ih =>
    show (d.canLay0 && PyData.canLayAll0 L) = true
    rw [h d (by simp), ih fun x hx => h x (by simp [hx])]
    rfl
theorem depth_all (L : List PyData) (k : Nat) (h : ∀ d ∈ L, d.depth ≤ k) : PyData.depthAll L ≤ k := by
  induction L with
  | nil => exact Nat.zero_le _
  | cons d L ih =>
    have h1 := h d (by simp)
    have h2 := ih fun x hx => h x (by simp [hx])
    simp only [PyData.depthAll]
    omega
theorem canLay_z (q : List Int) : PyData.canLayAll0 (q.map PyData.int) = true := canLay_all _ fun d hd => by
  obtain ⟨x, _, rfl⟩ := List.mem_map.mp hd
  rfl
theorem depth_z (q : List Int) : PyData.depthAll (q.map PyData.int) ≤ 1 := depth_all _ 1 fun d hd => by
  obtain ⟨x, _, rfl⟩ := List.mem_map.mp hd
  simp only [PyData.depth]
  omega
theorem sh_steps {n : Nat} {L : List PyData} (h : ∀ d ∈ L, StepD n d) : SeqAt.shaped (.list L) = true := by
  have c : PyData.canLayAll0 L = true := canLay_all L fun d hd => by
    obtain ⟨i, j, r, rfl, _⟩ := h d hd
    have := canLay_z r
    simp [PyData.canLay0, PyData.canLayAll0, this]
  have q : PyData.depthAll L ≤ 3 := depth_all L 3 fun d hd => by
    obtain ⟨i, j, r, rfl, _⟩ := h d hd
    have := depth_z r
    simp only [PyData.depth, PyData.depthAll]
    omega
  unfold SeqAt.shaped
  simp only [PyData.canLay0, c, Bool.true_and, decide_eq_true_eq]
  simp only [PyData.depth]
  omega
theorem eqv_ne_nil {L : List PyData} (h : L ≠ []) : PyData.eqv (.list L) (.list []) = false := by
  cases L with
  | nil => exact absurd rfl h
  | cons d L => simp [PyData.eqv, PyData.eqvAll]
theorem wp_raised {n : Nat} {u : List Int} {m : Nat} {s0 : Sl} (hu : IsRow n u) (h1 : 1 ≤ n) (h12 : n ≤ 12) (hm : m ≤ 100) (h0 : TupS s0 (zs u)) (K : Sl → Prop) (k : ∀ r s, IsRow n r → TupS s (zs r) → K s) : WP (w__law_raised [.src, s0, .imm (.int (m : Nat))]) K := by
  rw [w__law_raised_def, wp_run]
  unfold m__law_raised
  nofun
  refine ⟨by omega, fun i h3 h4 => ?_⟩
  have h5 : i < (m : Int) + 1 := by split at h4 <;> omega
  obtain ⟨q, rfl⟩ : ∃ q : Nat, i = (q : Int) := ⟨i.toNat, by omega⟩
  nofun
  refine ⟨by omega, ?_⟩
  refine for_inv PyData.int (fun d env => ∃ r s1 e3 e4, env = [some .src, some s1, some (.imm (.int (m : Nat))), e3, e4] ∧ IsRow n r ∧ TupS s1 (zs r)) (rng q) [] _ ⟨u, _, _, _, rfl, hu, h0⟩ ?_ ?_
  · rintro d x rest env e ⟨r, s1, e3, e4, rfl, hr, hs1⟩
    simp (disch := (first | omega | (simp only [List.length_set, List.length_map, List.length_append, List.length_take, List.length_drop, rng_len]; omega))) only [wp_ret, wp_bad, wp_ok, wp_if, kR_ap, slP_imm, slP_lst, slP_ft, kE_ap, kI_ap, k1_ap, k2b_ap, k2_ap, k2s_ap, k3c_ap, k3b_ap, k3_ap, kOI_ap, kT_ap, kAnd_ap, kOr_ap, kNot_ap, kVA_ap, kVO_ap, kVN_ap, kIf_ap, kC2_ap, kC1_ap, kTup_ap, kLst_ap, kA_ap, kG2_ap, kG1_ap, kCall_ap, kSeq_nx, kSeq_rt, kSeq_bk, kSeq_ct, kSet_ap, kDrop_ap, kRt_ap, kNxE_ap, kAsg_ap, kFor_ap, kTurn_nx, kTurn_ct, kTurn_bk, kTurn_rt, kBody_ap, kWh_ap, kPar2_ap, kPar1_ap, kP3c_ap, kP3b_ap, kP3a_ap, kRg1_ap, kRg2b_ap, kRg2_ap, kSq_list, kSq_tuple, kEnum_ap, kZip2_ll, kZip1_ap, kLcE_ap, kLc_ap, kLt3_ap, kLt2_ap, kLt1_ap, kRun_nx, kRun_rt, vP_imm, vP_lst, vP_ft, wp_var, pP_imm, pP_lst, pP_ft, wp_peek, moP_ap, wp_move, lkP_imm, lkP_ft, wp_look, gsP_src, gsP_fT, gsP_ft, gsP_imm, wp_gSrc, gnP_imm, gnP_ft, gnP_lst, wp_gNm, gfP_dT, gfP_fT, wp_gFrz, kGt_dT, kGt_imm, kGt_ft, wp_gTmp, wp_C, wp_E, wp_I, wp_1, wp_2, wp_2s, wp_3, wp_oN, wp_oS, wp_T, wp_and, wp_or, wp_not, wp_yes, wp_mIf, wp_vAnd, wp_vOr, wp_vNot, wp_aNil, wp_aCons, wp_tup, wp_lst, wp_A, wp_tupRg, wp_lstRg, wp_gNil, wp_gCons, wp_call, wp_lc, wp_wSeq, wp_wEnum, wp_wZip, wp_wRange1, wp_wRange2, wp_sNx, wp_sBk, wp_sCt, wp_sRetN, wp_seq, wp_set, wp_drop, wp_sRet, wp_sIf, wp_asg, wp_tgName, wp_tgTup, wp_tgAll0, wp_tgAll1, wp_tgN1, wp_tgNs, wp_tgG, wp_tgS0, kTgS_ap, wp_tgS1, wp_sFor, wp_par, wp_par3, wp_run, kIx_ap, isLst_ap, wp_tgIx, kAp_ap, wp_append, kPo_ap, wp_popAt, d_add, d_addb, d_addT, d_addL, d_sub, d_mul, d_mulL, d_fdiv, d_mod, d_pow, d_neg, d_lt, d_le, d_gt, d_ge, d_eq, d_ne, d_eqT, d_neT, d_eqL, d_neL, d_eqT0, d_neT0, d_eqL0, d_neL0, d_eqS, d_neS, d_isN, d_isntN, d_lenT, d_lenL, d_abs, d_int, d_intb, d_tupT, d_tupL, tupP_ft, d_listT, d_listL, d_max, d_min, d_ixT, d_ixL, d_slT, d_slL, cut_to, cut_from, d_revL, d_revT, d_repr, wp_pk, wp_tup0, wp_wipe, wp_wipe0, wp_rest, wp_rest0, ix_zs, ap_zs, ap_z0, po_zs, at0_nat, at0_nat1, toN1, toN2, Int.toNat_natCast, rangeD_rng, rangeD_sub, d_sort, d_sortT, wp_dnewT, kDg2_ap, kDg1_ap, dkO_dT, dkO_fT, isSome_some, wp_dget2, kDp2_ap, kDp1_ap, wp_dput, kDE_lst, kDE_imm, kDE_ft, wp_dictE, List.getElem?_cons_zero, List.getElem?_cons_succ, List.set_cons_zero, List.set_cons_succ, List.length_cons, List.length_nil, List.length_map, List.map_cons, List.map_nil, List.replicate_succ, List.replicate_zero, List.nil_append, List.cons_append, Nat.reduceSub, Nat.reduceAdd, Nat.reduceLeDiff, Nat.reduceLT, Nat.zero_add, Nat.sub_self, decide_eq_true_eq, Bool.not_eq_true', decide_eq_false_iff_not, ite_true, ite_false, if_true, if_false, reduceIte, Bool.true_eq_false, Bool.false_eq_true, and_true, true_and, true_implies, not_true_eq_false, not_false_eq_true, Int.reduceLE, Int.reduceLT, gt_iff_lt, wp_indexT, itP_ft, itP_it, kIt_ap, kIr_ap, wp_disp2, kD1_ap, kD2_ap, kD3_ap, kD4_ap, kD5_ap, kD6_ap, wp_chain, kCn1_ap, kCn2_ap, kCnS_ap, kCn3_ap, kCn4_ap, d_sum, d_max1, d_min1, tgn hs1]
    refine wp_steps hr h1 h12 hs1 _ fun L hL hlen => ?_
    simp (disch := (first | omega | (simp only [List.length_set, List.length_map, List.length_append, List.length_take, List.length_drop, rng_len]; omega))) only [wp_ret, wp_bad, wp_ok, wp_if, kR_ap, slP_imm, slP_lst, slP_ft, kE_ap, kI_ap, k1_ap, k2b_ap, k2_ap, k2s_ap, k3c_ap, k3b_ap, k3_ap, kOI_ap, kT_ap, kAnd_ap, kOr_ap, kNot_ap, kVA_ap, kVO_ap, kVN_ap, kIf_ap, kC2_ap, kC1_ap, kTup_ap, kLst_ap, kA_ap, kG2_ap, kG1_ap, kCall_ap, kSeq_nx, kSeq_rt, kSeq_bk, kSeq_ct, kSet_ap, kDrop_ap, kRt_ap, kNxE_ap, kAsg_ap, kFor_ap, kTurn_nx, kTurn_ct, kTurn_bk, kTurn_rt, kBody_ap, kWh_ap, kPar2_ap, kPar1_ap, kP3c_ap, kP3b_ap, kP3a_ap, kRg1_ap, kRg2b_ap, kRg2_ap, kSq_list, kSq_tuple, kEnum_ap, kZip2_ll, kZip1_ap, kLcE_ap, kLc_ap, kLt3_ap, kLt2_ap, kLt1_ap, kRun_nx, kRun_rt, vP_imm, vP_lst, vP_ft, wp_var, pP_imm, pP_lst, pP_ft, wp_peek, moP_ap, wp_move, lkP_imm, lkP_ft, wp_look, gsP_src, gsP_fT, gsP_ft, gsP_imm, wp_gSrc, gnP_imm, gnP_ft, gnP_lst, wp_gNm, gfP_dT, gfP_fT, wp_gFrz, kGt_dT, kGt_imm, kGt_ft, wp_gTmp, wp_C, wp_E, wp_I, wp_1, wp_2, wp_2s, wp_3, wp_oN, wp_oS, wp_T, wp_and, wp_or, wp_not, wp_yes, wp_mIf, wp_vAnd, wp_vOr, wp_vNot, wp_aNil, wp_aCons, wp_tup, wp_lst, wp_A, wp_tupRg, wp_lstRg, wp_gNil, wp_gCons, wp_call, wp_lc, wp_wSeq, wp_wEnum, wp_wZip, wp_wRange1, wp_wRange2, wp_sNx, wp_sBk, wp_sCt, wp_sRetN, wp_seq, wp_set, wp_drop, wp_sRet, wp_sIf, wp_asg, wp_tgName, wp_tgTup, wp_tgAll0, wp_tgAll1, wp_tgN1, wp_tgNs, wp_tgG, wp_tgS0, kTgS_ap, wp_tgS1, wp_sFor, wp_par, wp_par3, wp_run, kIx_ap, isLst_ap, wp_tgIx, kAp_ap, wp_append, kPo_ap, wp_popAt, d_add, d_addb, d_addT, d_addL, d_sub, d_mul, d_mulL, d_fdiv, d_mod, d_pow, d_neg, d_lt, d_le, d_gt, d_ge, d_eq, d_ne, d_eqT, d_neT, d_eqL, d_neL, d_eqT0, d_neT0, d_eqL0, d_neL0, d_eqS, d_neS, d_isN, d_isntN, d_lenT, d_lenL, d_abs, d_int, d_intb, d_tupT, d_tupL, tupP_ft, d_listT, d_listL, d_max, d_min, d_ixT, d_ixL, d_slT, d_slL, cut_to, cut_from, d_revL, d_revT, d_repr, wp_pk, wp_tup0, wp_wipe, wp_wipe0, wp_rest, wp_rest0, ix_zs, ap_zs, ap_z0, po_zs, at0_nat, at0_nat1, toN1, toN2, Int.toNat_natCast, rangeD_rng, rangeD_sub, d_sort, d_sortT, wp_dnewT, kDg2_ap, kDg1_ap, dkO_dT, dkO_fT, isSome_some, wp_dget2, kDp2_ap, kDp1_ap, wp_dput, kDE_lst, kDE_imm, kDE_ft, wp_dictE, List.getElem?_cons_zero, List.getElem?_cons_succ, List.set_cons_zero, List.set_cons_succ, List.length_cons, List.length_nil, List.length_map, List.map_cons, List.map_nil, List.replicate_succ, List.replicate_zero, List.nil_append, List.cons_append, Nat.reduceSub, Nat.reduceAdd, Nat.reduceLeDiff, Nat.reduceLT, Nat.zero_add, Nat.sub_self, decide_eq_true_eq, Bool.not_eq_true', decide_eq_false_iff_not, ite_true, ite_false, if_true, if_false, reduceIte, Bool.true_eq_false, Bool.false_eq_true, and_true, true_and, true_implies, not_true_eq_false, not_false_eq_true, Int.reduceLE, Int.reduceLT, gt_iff_lt, wp_indexT, itP_ft, itP_it, kIt_ap, kIr_ap, wp_disp2, kD1_ap, kD2_ap, kD3_ap, kD4_ap, kD5_ap, kD6_ap, wp_chain, kCn1_ap, kCn2_ap, kCnS_ap, kCn3_ap, kCn4_ap, d_sum, d_max1, d_min1, tp hs1, tv hs1]
    rw [ne_on (sh_steps hL) (by decide) (fun _ z => nomatch z)]
    by_cases c : L = []
    · subst c
      rw [show PyData.eqv (.list []) (.list []) = true by simp [PyData.eqv, PyData.eqvAll], Bool.not_true]
      simp (disch := (first | omega | (simp only [List.length_set, List.length_map, List.length_append, List.length_take, List.length_drop, rng_len]; omega))) only [wp_ret, wp_bad, wp_ok, wp_if, kR_ap, slP_imm, slP_lst, slP_ft, kE_ap, kI_ap, k1_ap, k2b_ap, k2_ap, k2s_ap, k3c_ap, k3b_ap, k3_ap, kOI_ap, kT_ap, kAnd_ap, kOr_ap, kNot_ap, kVA_ap, kVO_ap, kVN_ap, kIf_ap, kC2_ap, kC1_ap, kTup_ap, kLst_ap, kA_ap, kG2_ap, kG1_ap, kCall_ap, kSeq_nx, kSeq_rt, kSeq_bk, kSeq_ct, kSet_ap, kDrop_ap, kRt_ap, kNxE_ap, kAsg_ap, kFor_ap, kTurn_nx, kTurn_ct, kTurn_bk, kTurn_rt, kBody_ap, kWh_ap, kPar2_ap, kPar1_ap, kP3c_ap, kP3b_ap, kP3a_ap, kRg1_ap, kRg2b_ap, kRg2_ap, kSq_list, kSq_tuple, kEnum_ap, kZip2_ll, kZip1_ap, kLcE_ap, kLc_ap, kLt3_ap, kLt2_ap, kLt1_ap, kRun_nx, kRun_rt, vP_imm, vP_lst, vP_ft, wp_var, pP_imm, pP_lst, pP_ft, wp_peek, moP_ap, wp_move, lkP_imm, lkP_ft, wp_look, gsP_src, gsP_fT, gsP_ft, gsP_imm, wp_gSrc, gnP_imm, gnP_ft, gnP_lst, wp_gNm, gfP_dT, gfP_fT, wp_gFrz, kGt_dT, kGt_imm, kGt_ft, wp_gTmp, wp_C, wp_E, wp_I, wp_1, wp_2, wp_2s, wp_3, wp_oN, wp_oS, wp_T, wp_and, wp_or, wp_not, wp_yes, wp_mIf, wp_vAnd, wp_vOr, wp_vNot, wp_aNil, wp_aCons, wp_tup, wp_lst, wp_A, wp_tupRg, wp_lstRg, wp_gNil, wp_gCons, wp_call, wp_lc, wp_wSeq, wp_wEnum, wp_wZip, wp_wRange1, wp_wRange2, wp_sNx, wp_sBk, wp_sCt, wp_sRetN, wp_seq, wp_set, wp_drop, wp_sRet, wp_sIf, wp_asg, wp_tgName, wp_tgTup, wp_tgAll0, wp_tgAll1, wp_tgN1, wp_tgNs, wp_tgG, wp_tgS0, kTgS_ap, wp_tgS1, wp_sFor, wp_par, wp_par3, wp_run, kIx_ap, isLst_ap, wp_tgIx, kAp_ap, wp_append, kPo_ap, wp_popAt, d_add, d_addb, d_addT, d_addL, d_sub, d_mul, d_mulL, d_fdiv, d_mod, d_pow, d_neg, d_lt, d_le, d_gt, d_ge, d_eq, d_ne, d_eqT, d_neT, d_eqL, d_neL, d_eqT0, d_neT0, d_eqL0, d_neL0, d_eqS, d_neS, d_isN, d_isntN, d_lenT, d_lenL, d_abs, d_int, d_intb, d_tupT, d_tupL, tupP_ft, d_listT, d_listL, d_max, d_min, d_ixT, d_ixL, d_slT, d_slL, cut_to, cut_from, d_revL, d_revT, d_repr, wp_pk, wp_tup0, wp_wipe, wp_wipe0, wp_rest, wp_rest0, ix_zs, ap_zs, ap_z0, po_zs, at0_nat, at0_nat1, toN1, toN2, Int.toNat_natCast, rangeD_rng, rangeD_sub, d_sort, d_sortT, wp_dnewT, kDg2_ap, kDg1_ap, dkO_dT, dkO_fT, isSome_some, wp_dget2, kDp2_ap, kDp1_ap, wp_dput, kDE_lst, kDE_imm, kDE_ft, wp_dictE, List.getElem?_cons_zero, List.getElem?_cons_succ, List.set_cons_zero, List.set_cons_succ, List.length_cons, List.length_nil, List.length_map, List.map_cons, List.map_nil, List.replicate_succ, List.replicate_zero, List.nil_append, List.cons_append, Nat.reduceSub, Nat.reduceAdd, Nat.reduceLeDiff, Nat.reduceLT, Nat.zero_add, Nat.sub_self, decide_eq_true_eq, Bool.not_eq_true', decide_eq_false_iff_not, ite_true, ite_false, if_true, if_false, reduceIte, Bool.true_eq_false, Bool.false_eq_true, and_true, true_and, true_implies, not_true_eq_false, not_false_eq_true, Int.reduceLE, Int.reduceLT, gt_iff_lt, wp_indexT, itP_ft, itP_it, kIt_ap, kIr_ap, wp_disp2, kD1_ap, kD2_ap, kD3_ap, kD4_ap, kD5_ap, kD6_ap, wp_chain, kCn1_ap, kCn2_ap, kCnS_ap, kCn3_ap, kCn4_ap, d_sum, d_max1, d_min1, tp hs1, tv hs1]
      exact ⟨r, _, _, _, rfl, hr, tupI _⟩
    · rw [eqv_ne_nil c, Bool.not_false]
      have hp : 0 < L.length := List.length_pos_iff.mpr c
      nofun
      refine wp_of c (by omega) _ fun d2 hd2 => ?_
      obtain ⟨a, b, r2, rfl, hr2⟩ := hL d2 hd2
      nofun
      rw [d_ixTd (by omega) rfl]
      nofun
      exact ⟨r2, _, _, _, rfl, hr2, tupI _⟩
  · rintro env ⟨r, s1, e3, e4, rfl, hr, hs1⟩
    nofun
    exact k r s1 hr hs1
end T

set_option Elab.async false
set_option linter.all false
set_option autoImplicit false
set_option maxRecDepth 100000
namespace T
open PySem PySem.Spec L2 PV
/-! ### comparisons of rows in lists -/
theorem sh_rows (L : List (List Int)) : SeqAt.shaped (.list (L.map zT)) = true := by
  have c : PyData.canLayAll0 (L.map zT) = true := canLay_all _ fun d hd => by
    obtain ⟨r, _, rfl⟩ := List.mem_map.mp hd
    exact canLay_z r
  have q : PyData.depthAll (L.map zT) ≤ 2 := depth_all _ 2 fun d hd => by
    obtain ⟨r, _, rfl⟩ := List.mem_map.mp hd
    have := depth_z r
    show (PyData.tuple (zs r)).depth ≤ 2
    simp only [PyData.depth]
    have e : zs r = r.map PyData.int := rfl
    rw [e]
    omega
  unfold SeqAt.shaped
  simp only [PyData.canLay0, c, Bool.true_and, decide_eq_true_eq]
  simp only [PyData.depth]
  omega
theorem any_rows (x : List Int) : ∀ L : List (List Int), ((L.map zT).any fun z => PyData.eqv z (zT x)) = decide (x ∈ L)
  | [] => rfl
  | y :: L => by
    have e : PyData.eqv (zT y) (zT x) = decide (y = x) := eqv_TT ..
    rw [List.map_cons, List.any_cons, any_rows x L, e]
    by_cases c : y = x
    · subst c; simp
    · have c' : ¬ x = y := fun z => c z.symm
      simp [c, c']
theorem d_notinR {Ps : Sl → Prop} (L : List (List Int)) (x : List Int) : WP (notinD (zT x) (.list (L.map zT))) Ps = Ps (.imm (.bool (!decide (x ∈ L)))) := by
  show WP (ok _ _) Ps = _
  rw [wp_ok]
  show (_ ∧ WP (Tr.ret _) Ps) = _
  rw [wp_ret, any_rows]
  exact propext ⟨fun z => z.2, fun z => ⟨⟨sh_zT x, sh_rows L⟩, z⟩⟩
theorem d_ne00 {Ps : Sl → Prop} : WP (neD (.list []) (.list [])) Ps = Ps (.imm (.bool false)) := by
  have := d_neL (Ps := Ps) [] []
  exact this
theorem d_neB {Ps : Sl → Prop} (a b : Bool) : WP (neD (.bool a) (.bool b)) Ps = Ps (.imm (.bool (!decide (a = b)))) := by
  rw [ne_on (by cases a <;> decide) (by cases b <;> decide) (fun _ h => by cases h)]
  cases a <;> cases b <;> rfl
theorem tit {s : Sl} {ds : List PyData} (h : TupS s ds) (m : MI) (env : Ev) (P : Sl × Ev → Prop) : itP m env P (some (some s)) = WP (m env) (kIt ds P) := by rcases h with rfl | rfl <;> first | exact itP_ft .. | exact itP_it ..
local macro_rules | `(tactic| nofun) => `(tactic| simp (disch := (first | omega | (simp only [List.length_set, List.length_map, List.length_append, List.length_take, List.length_drop, rng_len]; omega))) only [wp_ret, wp_bad, wp_ok, wp_if, kR_ap, slP_imm, slP_lst, slP_ft, kE_ap, kI_ap, k1_ap, k2b_ap, k2_ap, k2s_ap, k3c_ap, k3b_ap, k3_ap, kOI_ap, kT_ap, kAnd_ap, kOr_ap, kNot_ap, kVA_ap, kVO_ap, kVN_ap, kIf_ap, kC2_ap, kC1_ap, kTup_ap, kLst_ap, kA_ap, kG2_ap, kG1_ap, kCall_ap, kSeq_nx, kSeq_rt, kSeq_bk, kSeq_ct, kSet_ap, kDrop_ap, kRt_ap, kNxE_ap, kAsg_ap, kFor_ap, kTurn_nx, kTurn_ct, kTurn_bk, kTurn_rt, kBody_ap, kWh_ap, kPar2_ap, kPar1_ap, kP3c_ap, kP3b_ap, kP3a_ap, kRg1_ap, kRg2b_ap, kRg2_ap, kSq_list, kSq_tuple, kEnum_ap, kZip2_ll, kZip1_ap, kLcE_ap, kLc_ap, kLt3_ap, kLt2_ap, kLt1_ap, kRun_nx, kRun_rt, vP_imm, vP_lst, vP_ft, wp_var, pP_imm, pP_lst, pP_ft, wp_peek, moP_ap, wp_move, lkP_imm, lkP_ft, wp_look, gsP_src, gsP_fT, gsP_ft, gsP_imm, wp_gSrc, gnP_imm, gnP_ft, gnP_lst, wp_gNm, gfP_dT, gfP_fT, wp_gFrz, kGt_dT, kGt_imm, kGt_ft, wp_gTmp, wp_C, wp_E, wp_I, wp_1, wp_2, wp_2s, wp_3, wp_oN, wp_oS, wp_T, wp_and, wp_or, wp_not, wp_yes, wp_mIf, wp_vAnd, wp_vOr, wp_vNot, wp_aNil, wp_aCons, wp_tup, wp_lst, wp_A, wp_tupRg, wp_lstRg, wp_gNil, wp_gCons, wp_call, wp_lc, wp_wSeq, wp_wEnum, wp_wZip, wp_wRange1, wp_wRange2, wp_sNx, wp_sBk, wp_sCt, wp_sRetN, wp_seq, wp_set, wp_drop, wp_sRet, wp_sIf, wp_asg, wp_tgName, wp_tgTup, wp_tgAll0, wp_tgAll1, wp_tgN1, wp_tgNs, wp_tgG, wp_tgS0, kTgS_ap, wp_tgS1, wp_sFor, wp_par, wp_par3, wp_run, kIx_ap, isLst_ap, wp_tgIx, kAp_ap, wp_append, kPo_ap, wp_popAt, d_add, d_addb, d_addT, d_addL, d_sub, d_mul, d_mulL, d_fdiv, d_mod, d_pow, d_neg, d_lt, d_le, d_gt, d_ge, d_eq, d_ne, d_eqT, d_neT, d_eqL, d_neL, d_eqT0, d_neT0, d_eqL0, d_neL0, d_eqS, d_neS, d_isN, d_isntN, d_lenT, d_lenL, d_abs, d_int, d_intb, d_tupT, d_tupL, tupP_ft, d_listT, d_listL, d_max, d_min, d_ixT, d_ixL, d_slT, d_slL, cut_to, cut_from, d_revL, d_revT, d_repr, wp_pk, wp_tup0, wp_wipe, wp_wipe0, wp_rest, wp_rest0, ix_zs, ap_zs, ap_z0, po_zs, at0_nat, at0_nat1, toN1, toN2, Int.toNat_natCast, rangeD_rng, rangeD_sub, d_sort, d_sortT, wp_dnewT, kDg2_ap, kDg1_ap, dkO_dT, dkO_fT, isSome_some, wp_dget2, kDp2_ap, kDp1_ap, wp_dput, kDE_lst, kDE_imm, kDE_ft, wp_dictE, List.getElem?_cons_zero, List.getElem?_cons_succ, List.set_cons_zero, List.set_cons_succ, List.length_cons, List.length_nil, List.length_map, List.map_cons, List.map_nil, List.replicate_succ, List.replicate_zero, List.nil_append, List.cons_append, Nat.reduceSub, Nat.reduceAdd, Nat.reduceLeDiff, Nat.reduceLT, Nat.zero_add, Nat.sub_self, decide_eq_true_eq, Bool.not_eq_true', decide_eq_false_iff_not, ite_true, ite_false, if_true, if_false, reduceIte, Bool.true_eq_false, Bool.false_eq_true, and_true, true_and, true_implies, not_true_eq_false, not_false_eq_true, Int.reduceLE, Int.reduceLT, gt_iff_lt, wp_indexT, itP_ft, itP_it, kIt_ap, kIr_ap, wp_disp2, kD1_ap, kD2_ap, kD3_ap, kD4_ap, kD5_ap, kD6_ap, wp_chain, kCn1_ap, kCn2_ap, kCnS_ap, kCn3_ap, kCn4_ap, d_sum, d_max1, d_min1])
theorem wp_other_way {n : Nat} {v : List Int} {s : Sl} (hv : IsRow n v) (h1 : 1 ≤ n) (hn : n ≤ 1000) (hs : TupS s (zs v)) (K : Sl → Prop) (k : K (.ft (zs (ivr n v)))) : WP (w__law_other_way [s]) K := by
  rw [w__law_other_way_def, wp_run]
  unfold m__law_other_way
  have hl := hv.len
  simp (disch := (first | omega | (simp only [List.length_set, List.length_map, List.length_append, List.length_take, List.length_drop, rng_len]; omega))) only [wp_ret, wp_bad, wp_ok, wp_if, kR_ap, slP_imm, slP_lst, slP_ft, kE_ap, kI_ap, k1_ap, k2b_ap, k2_ap, k2s_ap, k3c_ap, k3b_ap, k3_ap, kOI_ap, kT_ap, kAnd_ap, kOr_ap, kNot_ap, kVA_ap, kVO_ap, kVN_ap, kIf_ap, kC2_ap, kC1_ap, kTup_ap, kLst_ap, kA_ap, kG2_ap, kG1_ap, kCall_ap, kSeq_nx, kSeq_rt, kSeq_bk, kSeq_ct, kSet_ap, kDrop_ap, kRt_ap, kNxE_ap, kAsg_ap, kFor_ap, kTurn_nx, kTurn_ct, kTurn_bk, kTurn_rt, kBody_ap, kWh_ap, kPar2_ap, kPar1_ap, kP3c_ap, kP3b_ap, kP3a_ap, kRg1_ap, kRg2b_ap, kRg2_ap, kSq_list, kSq_tuple, kEnum_ap, kZip2_ll, kZip1_ap, kLcE_ap, kLc_ap, kLt3_ap, kLt2_ap, kLt1_ap, kRun_nx, kRun_rt, vP_imm, vP_lst, vP_ft, wp_var, pP_imm, pP_lst, pP_ft, wp_peek, moP_ap, wp_move, lkP_imm, lkP_ft, wp_look, gsP_src, gsP_fT, gsP_ft, gsP_imm, wp_gSrc, gnP_imm, gnP_ft, gnP_lst, wp_gNm, gfP_dT, gfP_fT, wp_gFrz, kGt_dT, kGt_imm, kGt_ft, wp_gTmp, wp_C, wp_E, wp_I, wp_1, wp_2, wp_2s, wp_3, wp_oN, wp_oS, wp_T, wp_and, wp_or, wp_not, wp_yes, wp_mIf, wp_vAnd, wp_vOr, wp_vNot, wp_aNil, wp_aCons, wp_tup, wp_lst, wp_A, wp_tupRg, wp_lstRg, wp_gNil, wp_gCons, wp_call, wp_lc, wp_wSeq, wp_wEnum, wp_wZip, wp_wRange1, wp_wRange2, wp_sNx, wp_sBk, wp_sCt, wp_sRetN, wp_seq, wp_set, wp_drop, wp_sRet, wp_sIf, wp_asg, wp_tgName, wp_tgTup, wp_tgAll0, wp_tgAll1, wp_tgN1, wp_tgNs, wp_tgG, wp_tgS0, kTgS_ap, wp_tgS1, wp_sFor, wp_par, wp_par3, wp_run, kIx_ap, isLst_ap, wp_tgIx, kAp_ap, wp_append, kPo_ap, wp_popAt, d_add, d_addb, d_addT, d_addL, d_sub, d_mul, d_mulL, d_fdiv, d_mod, d_pow, d_neg, d_lt, d_le, d_gt, d_ge, d_eq, d_ne, d_eqT, d_neT, d_eqL, d_neL, d_eqT0, d_neT0, d_eqL0, d_neL0, d_eqS, d_neS, d_isN, d_isntN, d_lenT, d_lenL, d_abs, d_int, d_intb, d_tupT, d_tupL, tupP_ft, d_listT, d_listL, d_max, d_min, d_ixT, d_ixL, d_slT, d_slL, cut_to, cut_from, d_revL, d_revT, d_repr, wp_pk, wp_tup0, wp_wipe, wp_wipe0, wp_rest, wp_rest0, ix_zs, ap_zs, ap_z0, po_zs, at0_nat, at0_nat1, toN1, toN2, Int.toNat_natCast, rangeD_rng, rangeD_sub, d_sort, d_sortT, wp_dnewT, kDg2_ap, kDg1_ap, dkO_dT, dkO_fT, isSome_some, wp_dget2, kDp2_ap, kDp1_ap, wp_dput, kDE_lst, kDE_imm, kDE_ft, wp_dictE, List.getElem?_cons_zero, List.getElem?_cons_succ, List.set_cons_zero, List.set_cons_succ, List.length_cons, List.length_nil, List.length_map, List.map_cons, List.map_nil, List.replicate_succ, List.replicate_zero, List.nil_append, List.cons_append, Nat.reduceSub, Nat.reduceAdd, Nat.reduceLeDiff, Nat.reduceLT, Nat.zero_add, Nat.sub_self, decide_eq_true_eq, Bool.not_eq_true', decide_eq_false_iff_not, ite_true, ite_false, if_true, if_false, reduceIte, Bool.true_eq_false, Bool.false_eq_true, and_true, true_and, true_implies, not_true_eq_false, not_false_eq_true, Int.reduceLE, Int.reduceLT, gt_iff_lt, wp_indexT, itP_ft, itP_it, kIt_ap, kIr_ap, wp_disp2, kD1_ap, kD2_ap, kD3_ap, kD4_ap, kD5_ap, kD6_ap, wp_chain, kCn1_ap, kCn2_ap, kCnS_ap, kCn3_ap, kCn4_ap, d_sum, d_max1, d_min1, tp hs]
  rw [hl]
  refine ⟨by omega, by rw [rng_len]; omega, lc_pure PyData.int (fun _ => true) (fun x => .int (v.idxOf x : Nat)) _ _ _ (fun x hx => ?_) ?_⟩
  · have hm := hv.mem.mpr (mem_rng.mp hx)
    simp (disch := (first | omega | (simp only [List.length_set, List.length_map, List.length_append, List.length_take, List.length_drop, rng_len]; omega))) only [wp_ret, wp_bad, wp_ok, wp_if, kR_ap, slP_imm, slP_lst, slP_ft, kE_ap, kI_ap, k1_ap, k2b_ap, k2_ap, k2s_ap, k3c_ap, k3b_ap, k3_ap, kOI_ap, kT_ap, kAnd_ap, kOr_ap, kNot_ap, kVA_ap, kVO_ap, kVN_ap, kIf_ap, kC2_ap, kC1_ap, kTup_ap, kLst_ap, kA_ap, kG2_ap, kG1_ap, kCall_ap, kSeq_nx, kSeq_rt, kSeq_bk, kSeq_ct, kSet_ap, kDrop_ap, kRt_ap, kNxE_ap, kAsg_ap, kFor_ap, kTurn_nx, kTurn_ct, kTurn_bk, kTurn_rt, kBody_ap, kWh_ap, kPar2_ap, kPar1_ap, kP3c_ap, kP3b_ap, kP3a_ap, kRg1_ap, kRg2b_ap, kRg2_ap, kSq_list, kSq_tuple, kEnum_ap, kZip2_ll, kZip1_ap, kLcE_ap, kLc_ap, kLt3_ap, kLt2_ap, kLt1_ap, kRun_nx, kRun_rt, vP_imm, vP_lst, vP_ft, wp_var, pP_imm, pP_lst, pP_ft, wp_peek, moP_ap, wp_move, lkP_imm, lkP_ft, wp_look, gsP_src, gsP_fT, gsP_ft, gsP_imm, wp_gSrc, gnP_imm, gnP_ft, gnP_lst, wp_gNm, gfP_dT, gfP_fT, wp_gFrz, kGt_dT, kGt_imm, kGt_ft, wp_gTmp, wp_C, wp_E, wp_I, wp_1, wp_2, wp_2s, wp_3, wp_oN, wp_oS, wp_T, wp_and, wp_or, wp_not, wp_yes, wp_mIf, wp_vAnd, wp_vOr, wp_vNot, wp_aNil, wp_aCons, wp_tup, wp_lst, wp_A, wp_tupRg, wp_lstRg, wp_gNil, wp_gCons, wp_call, wp_lc, wp_wSeq, wp_wEnum, wp_wZip, wp_wRange1, wp_wRange2, wp_sNx, wp_sBk, wp_sCt, wp_sRetN, wp_seq, wp_set, wp_drop, wp_sRet, wp_sIf, wp_asg, wp_tgName, wp_tgTup, wp_tgAll0, wp_tgAll1, wp_tgN1, wp_tgNs, wp_tgG, wp_tgS0, kTgS_ap, wp_tgS1, wp_sFor, wp_par, wp_par3, wp_run, kIx_ap, isLst_ap, wp_tgIx, kAp_ap, wp_append, kPo_ap, wp_popAt, d_add, d_addb, d_addT, d_addL, d_sub, d_mul, d_mulL, d_fdiv, d_mod, d_pow, d_neg, d_lt, d_le, d_gt, d_ge, d_eq, d_ne, d_eqT, d_neT, d_eqL, d_neL, d_eqT0, d_neT0, d_eqL0, d_neL0, d_eqS, d_neS, d_isN, d_isntN, d_lenT, d_lenL, d_abs, d_int, d_intb, d_tupT, d_tupL, tupP_ft, d_listT, d_listL, d_max, d_min, d_ixT, d_ixL, d_slT, d_slL, cut_to, cut_from, d_revL, d_revT, d_repr, wp_pk, wp_tup0, wp_wipe, wp_wipe0, wp_rest, wp_rest0, ix_zs, ap_zs, ap_z0, po_zs, at0_nat, at0_nat1, toN1, toN2, Int.toNat_natCast, rangeD_rng, rangeD_sub, d_sort, d_sortT, wp_dnewT, kDg2_ap, kDg1_ap, dkO_dT, dkO_fT, isSome_some, wp_dget2, kDp2_ap, kDp1_ap, wp_dput, kDE_lst, kDE_imm, kDE_ft, wp_dictE, List.getElem?_cons_zero, List.getElem?_cons_succ, List.set_cons_zero, List.set_cons_succ, List.length_cons, List.length_nil, List.length_map, List.map_cons, List.map_nil, List.replicate_succ, List.replicate_zero, List.nil_append, List.cons_append, Nat.reduceSub, Nat.reduceAdd, Nat.reduceLeDiff, Nat.reduceLT, Nat.zero_add, Nat.sub_self, decide_eq_true_eq, Bool.not_eq_true', decide_eq_false_iff_not, ite_true, ite_false, if_true, if_false, reduceIte, Bool.true_eq_false, Bool.false_eq_true, and_true, true_and, true_implies, not_true_eq_false, not_false_eq_true, Int.reduceLE, Int.reduceLT, gt_iff_lt, wp_indexT, itP_ft, itP_it, kIt_ap, kIr_ap, wp_disp2, kD1_ap, kD2_ap, kD3_ap, kD4_ap, kD5_ap, kD6_ap, wp_chain, kCn1_ap, kCn2_ap, kCnS_ap, kCn3_ap, kCn4_ap, d_sum, d_max1, d_min1, tit hs]
    rw [show zs v = v.map PyData.int from rfl, d_ixFt hm]
    nofun
  · have e : ((rng n).filter fun _ => true).map (fun x => PyData.int (v.idxOf x : Nat)) = (ivr n v).map PyData.int := by
      rw [List.filter_eq_self.mpr fun _ _ => rfl]
      unfold ivr
      rw [List.map_map]
      rfl
    rw [e]
    nofun
    exact k
end T

set_option Elab.async false
set_option linter.all false
set_option autoImplicit false
set_option maxRecDepth 100000
namespace T
open PySem PySem.Spec L2 PV
local macro_rules | `(tactic| nofun) => `(tactic| simp (disch := (first | omega | (simp only [List.length_set, List.length_map, List.length_append, List.length_take, List.length_drop, rng_len]; omega))) only [wp_ret, wp_bad, wp_ok, wp_if, kR_ap, slP_imm, slP_lst, slP_ft, kE_ap, kI_ap, k1_ap, k2b_ap, k2_ap, k2s_ap, k3c_ap, k3b_ap, k3_ap, kOI_ap, kT_ap, kAnd_ap, kOr_ap, kNot_ap, kVA_ap, kVO_ap, kVN_ap, kIf_ap, kC2_ap, kC1_ap, kTup_ap, kLst_ap, kA_ap, kG2_ap, kG1_ap, kCall_ap, kSeq_nx, kSeq_rt, kSeq_bk, kSeq_ct, kSet_ap, kDrop_ap, kRt_ap, kNxE_ap, kAsg_ap, kFor_ap, kTurn_nx, kTurn_ct, kTurn_bk, kTurn_rt, kBody_ap, kWh_ap, kPar2_ap, kPar1_ap, kP3c_ap, kP3b_ap, kP3a_ap, kRg1_ap, kRg2b_ap, kRg2_ap, kSq_list, kSq_tuple, kEnum_ap, kZip2_ll, kZip1_ap, kLcE_ap, kLc_ap, kLt3_ap, kLt2_ap, kLt1_ap, kRun_nx, kRun_rt, vP_imm, vP_lst, vP_ft, wp_var, pP_imm, pP_lst, pP_ft, wp_peek, moP_ap, wp_move, lkP_imm, lkP_ft, wp_look, gsP_src, gsP_fT, gsP_ft, gsP_imm, wp_gSrc, gnP_imm, gnP_ft, gnP_lst, wp_gNm, gfP_dT, gfP_fT, wp_gFrz, kGt_dT, kGt_imm, kGt_ft, wp_gTmp, wp_C, wp_E, wp_I, wp_1, wp_2, wp_2s, wp_3, wp_oN, wp_oS, wp_T, wp_and, wp_or, wp_not, wp_yes, wp_mIf, wp_vAnd, wp_vOr, wp_vNot, wp_aNil, wp_aCons, wp_tup, wp_lst, wp_A, wp_tupRg, wp_lstRg, wp_gNil, wp_gCons, wp_call, wp_lc, wp_wSeq, wp_wEnum, wp_wZip, wp_wRange1, wp_wRange2, wp_sNx, wp_sBk, wp_sCt, wp_sRetN, wp_seq, wp_set, wp_drop, wp_sRet, wp_sIf, wp_asg, wp_tgName, wp_tgTup, wp_tgAll0, wp_tgAll1, wp_tgN1, wp_tgNs, wp_tgG, wp_tgS0, kTgS_ap, wp_tgS1, wp_sFor, wp_par, wp_par3, wp_run, kIx_ap, isLst_ap, wp_tgIx, kAp_ap, wp_append, kPo_ap, wp_popAt, d_add, d_addb, d_addT, d_addL, d_sub, d_mul, d_mulL, d_fdiv, d_mod, d_pow, d_neg, d_lt, d_le, d_gt, d_ge, d_eq, d_ne, d_eqT, d_neT, d_eqL, d_neL, d_eqT0, d_neT0, d_eqL0, d_neL0, d_eqS, d_neS, d_isN, d_isntN, d_lenT, d_lenL, d_abs, d_int, d_intb, d_tupT, d_tupL, tupP_ft, d_listT, d_listL, d_max, d_min, d_ixT, d_ixL, d_slT, d_slL, cut_to, cut_from, d_revL, d_revT, d_repr, wp_pk, wp_tup0, wp_wipe, wp_wipe0, wp_rest, wp_rest0, ix_zs, ap_zs, ap_z0, po_zs, at0_nat, at0_nat1, toN1, toN2, Int.toNat_natCast, rangeD_rng, rangeD_sub, d_sort, d_sortT, wp_dnewT, kDg2_ap, kDg1_ap, dkO_dT, dkO_fT, isSome_some, wp_dget2, kDp2_ap, kDp1_ap, wp_dput, kDE_lst, kDE_imm, kDE_ft, wp_dictE, List.getElem?_cons_zero, List.getElem?_cons_succ, List.set_cons_zero, List.set_cons_succ, List.length_cons, List.length_nil, List.length_map, List.map_cons, List.map_nil, List.replicate_succ, List.replicate_zero, List.nil_append, List.cons_append, Nat.reduceSub, Nat.reduceAdd, Nat.reduceLeDiff, Nat.reduceLT, Nat.zero_add, Nat.sub_self, decide_eq_true_eq, Bool.not_eq_true', decide_eq_false_iff_not, ite_true, ite_false, if_true, if_false, reduceIte, Bool.true_eq_false, Bool.false_eq_true, and_true, true_and, true_implies, not_true_eq_false, not_false_eq_true, Int.reduceLE, Int.reduceLT, gt_iff_lt, wp_indexT, itP_ft, itP_it, kIt_ap, kIr_ap, wp_disp2, kD1_ap, kD2_ap, kD3_ap, kD4_ap, kD5_ap, kD6_ap, wp_chain, kCn1_ap, kCn2_ap, kCnS_ap, kCn3_ap, kCn4_ap, d_sum, d_max1, d_min1])
theorem filt_nil {L : List (List Int)} {p : List Int → Bool} (h : ∀ r ∈ L, p r = true) : (L.filter fun r => !p r) = [] := by
  rw [List.filter_eq_nil_iff]
  intro r hr
  rw [h r hr]
  decide
theorem rowsB_len {n : Nat} (h4 : n ≤ 4) (w : List Int) : (rowsB n w).length ≤ 256 := by
  have l4 : (allR n n).length ≤ 256 := by
    refine Nat.le_trans (allR_len n n) ?_
    refine Nat.le_trans (Nat.pow_le_pow_left h4 _) ?_
    exact Nat.le_trans (Nat.pow_le_pow_right (by decide) h4) (by decide)
  exact Nat.le_trans (List.length_filter_le _ _) l4
theorem part1 (cs : List Int) (REST : MS) (e2 e3 e4 e5 e6 e7 e8 e9 e10 e11 e12 e13 e14 e15 e16 : Option Sl) (K : Fl × Ev → Prop)
    (hR : ∀ (n : Nat) (u w x ww : List Int) s9 e7 e8 e10, 1 ≤ n → n ≤ 4 → IsRow n u → IsRow n w → IsRow n x → LeW n ww w → TupS s9 (zs (oc u ww)) → WP (REST [some (.scr cs), some .src, e2, some (.imm (.int (n : Nat))), some (.imm (zT u)), some (.imm (zT w)), some (.imm (zT x)), e7, e8, some s9, e10, e11, e12, e13, e14, e15, e16]) K) : WP ((sSeq (sSet 3 (m2 addD (mC (.int 1)) (mI (mCall 2 w__law_pick (gSrc 1 (gCons' (mC (.int 4)) gNil'))))))
    (sSeq (sAsg (mTup (aCons (mI (mCall 2 w__law_row (gSrc 1 (gNm 3 gNil')))) (aCons (mI (mCall 2 w__law_row (gSrc 1 (gNm 3 gNil')))) (aCons (mI (mCall 2 w__law_row (gSrc 1 (gNm 3 gNil')))) aNil)))) (tgTup [4, 5, 6]))
    (sSeq (sSet 7 (mLc (wSeq (mI (mCall 1 w__law_rows_below (gNm 4 gNil')))) true [8] tYes' (mI (mCall 2 w__law_behind (gNm 8 (gNm 5 gNil'))))))
    (sSeq (sSet 9 (mCall 2 w_once (gNm 4 (gNm 5 gNil'))))
    (sSeq (sIf (mT (mI (m2 neD (mI (mLc (wSeq (mVar 7)) true [10] (tNot (mT (mI (mCall 2 w__law_is_below (gNm 10 (gNm 9 gNil')))))) (mVar 10))) (mI (mLst aNil))))) (sRet (mE (mC (.bool false)))) sNx)
    REST))))) [some (.scr cs), some .src, e2, e3, e4, e5, e6, e7, e8, e9, e10, e11, e12, e13, e14, e15, e16]) K := by
  nofun
  intro i h0 h1
  obtain ⟨m, rfl⟩ : ∃ j : Nat, i = (j : Int) := ⟨i.toNat, by omega⟩
  have en2 : (1 : Int) + (m : Int) = ((m + 1 : Nat) : Int) := by omega
  rw [en2]
  refine wp_row (by omega) (by omega) _ fun u hu => ?_
  nofun
  refine wp_row (by omega) (by omega) _ fun w hw => ?_
  nofun
  refine wp_row (by omega) (by omega) _ fun x hx => ?_
  nofun
  refine wp_rows_below hu (by omega) (by omega) (tupI _) _ ?_
  nofun
  have hlen := rowsB_len (n := m + 1) (by omega) u
  refine ⟨by omega, lc_pure zT (fun _ => true) (fun r => zT (bh r w)) _ _ _ (fun r hr => ?_) ?_⟩
  · obtain ⟨r1, r2⟩ := rowsB_mem.mp hr
    nofun
    refine wp_behind r1 hw (by omega) (by omega) (tupI _) (tupI _) _ ?_
    nofun
  · have e1 : ((rowsB (m + 1) u).filter fun _ => true).map (fun r => zT (bh r w)) = ((rowsB (m + 1) u).map fun r => bh r w).map zT := by
      rw [List.filter_eq_self.mpr fun _ _ => rfl, List.map_map]
      rfl
    rw [e1]
    nofun
    refine wp_once hu hw (by omega) (by omega) (tupI _) (tupI _) _ fun ww s9 hww hs9 => ?_
    have lww := hww.lwd hw
    have hoc := oc_row hu lww.wd
    have hs9 : TupS s9 (zs (oc u ww)) := hs9
    nofun
    refine ⟨by omega, lc_pure zT (fun r => !belB r (oc u ww)) zT _ _ _ (fun r hr => ?_) ?_⟩
    · obtain ⟨q, hq, rfl⟩ := List.mem_map.mp hr
      obtain ⟨r1, r2⟩ := rowsB_mem.mp hq
      have b := top_one r1 hu lww.for hw r2
      simp (disch := (first | omega | (simp only [List.length_set, List.length_map, List.length_append, List.length_take, List.length_drop, rng_len]; omega))) only [wp_ret, wp_bad, wp_ok, wp_if, kR_ap, slP_imm, slP_lst, slP_ft, kE_ap, kI_ap, k1_ap, k2b_ap, k2_ap, k2s_ap, k3c_ap, k3b_ap, k3_ap, kOI_ap, kT_ap, kAnd_ap, kOr_ap, kNot_ap, kVA_ap, kVO_ap, kVN_ap, kIf_ap, kC2_ap, kC1_ap, kTup_ap, kLst_ap, kA_ap, kG2_ap, kG1_ap, kCall_ap, kSeq_nx, kSeq_rt, kSeq_bk, kSeq_ct, kSet_ap, kDrop_ap, kRt_ap, kNxE_ap, kAsg_ap, kFor_ap, kTurn_nx, kTurn_ct, kTurn_bk, kTurn_rt, kBody_ap, kWh_ap, kPar2_ap, kPar1_ap, kP3c_ap, kP3b_ap, kP3a_ap, kRg1_ap, kRg2b_ap, kRg2_ap, kSq_list, kSq_tuple, kEnum_ap, kZip2_ll, kZip1_ap, kLcE_ap, kLc_ap, kLt3_ap, kLt2_ap, kLt1_ap, kRun_nx, kRun_rt, vP_imm, vP_lst, vP_ft, wp_var, pP_imm, pP_lst, pP_ft, wp_peek, moP_ap, wp_move, lkP_imm, lkP_ft, wp_look, gsP_src, gsP_fT, gsP_ft, gsP_imm, wp_gSrc, gnP_imm, gnP_ft, gnP_lst, wp_gNm, gfP_dT, gfP_fT, wp_gFrz, kGt_dT, kGt_imm, kGt_ft, wp_gTmp, wp_C, wp_E, wp_I, wp_1, wp_2, wp_2s, wp_3, wp_oN, wp_oS, wp_T, wp_and, wp_or, wp_not, wp_yes, wp_mIf, wp_vAnd, wp_vOr, wp_vNot, wp_aNil, wp_aCons, wp_tup, wp_lst, wp_A, wp_tupRg, wp_lstRg, wp_gNil, wp_gCons, wp_call, wp_lc, wp_wSeq, wp_wEnum, wp_wZip, wp_wRange1, wp_wRange2, wp_sNx, wp_sBk, wp_sCt, wp_sRetN, wp_seq, wp_set, wp_drop, wp_sRet, wp_sIf, wp_asg, wp_tgName, wp_tgTup, wp_tgAll0, wp_tgAll1, wp_tgN1, wp_tgNs, wp_tgG, wp_tgS0, kTgS_ap, wp_tgS1, wp_sFor, wp_par, wp_par3, wp_run, kIx_ap, isLst_ap, wp_tgIx, kAp_ap, wp_append, kPo_ap, wp_popAt, d_add, d_addb, d_addT, d_addL, d_sub, d_mul, d_mulL, d_fdiv, d_mod, d_pow, d_neg, d_lt, d_le, d_gt, d_ge, d_eq, d_ne, d_eqT, d_neT, d_eqL, d_neL, d_eqT0, d_neT0, d_eqL0, d_neL0, d_eqS, d_neS, d_isN, d_isntN, d_lenT, d_lenL, d_abs, d_int, d_intb, d_tupT, d_tupL, tupP_ft, d_listT, d_listL, d_max, d_min, d_ixT, d_ixL, d_slT, d_slL, cut_to, cut_from, d_revL, d_revT, d_repr, wp_pk, wp_tup0, wp_wipe, wp_wipe0, wp_rest, wp_rest0, ix_zs, ap_zs, ap_z0, po_zs, at0_nat, at0_nat1, toN1, toN2, Int.toNat_natCast, rangeD_rng, rangeD_sub, d_sort, d_sortT, wp_dnewT, kDg2_ap, kDg1_ap, dkO_dT, dkO_fT, isSome_some, wp_dget2, kDp2_ap, kDp1_ap, wp_dput, kDE_lst, kDE_imm, kDE_ft, wp_dictE, List.getElem?_cons_zero, List.getElem?_cons_succ, List.set_cons_zero, List.set_cons_succ, List.length_cons, List.length_nil, List.length_map, List.map_cons, List.map_nil, List.replicate_succ, List.replicate_zero, List.nil_append, List.cons_append, Nat.reduceSub, Nat.reduceAdd, Nat.reduceLeDiff, Nat.reduceLT, Nat.zero_add, Nat.sub_self, decide_eq_true_eq, Bool.not_eq_true', decide_eq_false_iff_not, ite_true, ite_false, if_true, if_false, reduceIte, Bool.true_eq_false, Bool.false_eq_true, and_true, true_and, true_implies, not_true_eq_false, not_false_eq_true, Int.reduceLE, Int.reduceLT, gt_iff_lt, wp_indexT, itP_ft, itP_it, kIt_ap, kIr_ap, wp_disp2, kD1_ap, kD2_ap, kD3_ap, kD4_ap, kD5_ap, kD6_ap, wp_chain, kCn1_ap, kCn2_ap, kCnS_ap, kCn3_ap, kCn4_ap, d_sum, d_max1, d_min1, tgn hs9]
      refine wp_below2 (bh_row r1 hw) hoc (by omega) (by omega) (tupI _) hs9 _ (fun hb => ?_) (fun hb => absurd b hb)
      nofun
      rw [belB_t b]
      rfl
    · rw [filt_nil fun r hr => ?_]
      · rw [List.map_nil]
        nofun
        rw [d_ne00]
        nofun
        exact hR (m + 1) u w x ww s9 _ _ _ (by omega) (by omega) hu hw hx hww hs9
      · obtain ⟨q, hq, rfl⟩ := List.mem_map.mp hr
        obtain ⟨r1, r2⟩ := rowsB_mem.mp hq
        exact belB_t (top_one r1 hu lww.for hw r2)
theorem LeW.rwd {n : Nat} {w r : List Int} (h : LeW n w r) (hr : IsRow n r) : ∃ v, RWd n v r := RWd.ex hr
theorem part2 (cs : List Int) (n : Nat) (u w x ww : List Int) (s9 : Sl) (h1 : 1 ≤ n) (h4 : n ≤ 4) (hu : IsRow n u) (hw : IsRow n w) (hww : LeW n ww w) (hs9 : TupS s9 (zs (oc u ww))) (REST : MS) (e2 e3 e4 e5 e6 e7 e8 e9 e10 e11 e12 e13 e14 e15 e16 : Option Sl) (K : Fl × Ev → Prop)
    (hR : ∀ e7 e10 e11, WP (REST [some (.scr cs), some .src, e2, e3, some (.imm (zT u)), some (.imm (zT w)), e6, e7, e8, some s9, e10, e11, e12, e13, e14, e15, e16]) K) : WP ((sSeq (sSet 7 (mLc (wSeq (mI (mCall 1 w__law_rows_below (gNm 5 gNil')))) true [11] tYes' (mI (mCall 2 w__law_behind (gNm 4 (gNm 11 gNil'))))))
    (sSeq (sIf (tOr (mT (mI (m2 neD (mI (mLc (wSeq (mVar 7)) true [10] (tNot (mT (mI (mCall 2 w__law_is_below (gNm 10 (gNm 9 gNil')))))) (mVar 10))) (mI (mLst aNil))))) (mT (mI (m2 notinD (mPeek 9) (mPeek 7))))) (sRet (mE (mC (.bool false)))) sNx)
    REST)) [some (.scr cs), some .src, e2, e3, some (.imm (zT u)), some (.imm (zT w)), e6, e7, e8, some s9, e10, e11, e12, e13, e14, e15, e16]) K := by
  have lww := hww.lwd hw
  have hoc := oc_row hu lww.wd
  nofun
  refine wp_rows_below hw (by omega) (by omega) (tupI _) _ ?_
  nofun
  have hlen := rowsB_len h4 w
  refine ⟨by omega, lc_pure zT (fun _ => true) (fun r => zT (bh u r)) _ _ _ (fun r hr => ?_) ?_⟩
  · obtain ⟨r1, r2⟩ := rowsB_mem.mp hr
    nofun
    refine wp_behind hu r1 (by omega) (by omega) (tupI _) (tupI _) _ ?_
    nofun
  · have e1 : ((rowsB n w).filter fun _ => true).map (fun r => zT (bh u r)) = ((rowsB n w).map fun r => bh u r).map zT := by
      rw [List.filter_eq_self.mpr fun _ _ => rfl, List.map_map]
      rfl
    rw [e1]
    nofun
    refine ⟨by omega, lc_pure zT (fun r => !belB r (oc u ww)) zT _ _ _ (fun r hr => ?_) ?_⟩
    · obtain ⟨q, hq, rfl⟩ := List.mem_map.mp hr
      obtain ⟨r1, r2⟩ := rowsB_mem.mp hq
      have b := top_two r1 hu lww.for hw r2
      simp (disch := (first | omega | (simp only [List.length_set, List.length_map, List.length_append, List.length_take, List.length_drop, rng_len]; omega))) only [wp_ret, wp_bad, wp_ok, wp_if, kR_ap, slP_imm, slP_lst, slP_ft, kE_ap, kI_ap, k1_ap, k2b_ap, k2_ap, k2s_ap, k3c_ap, k3b_ap, k3_ap, kOI_ap, kT_ap, kAnd_ap, kOr_ap, kNot_ap, kVA_ap, kVO_ap, kVN_ap, kIf_ap, kC2_ap, kC1_ap, kTup_ap, kLst_ap, kA_ap, kG2_ap, kG1_ap, kCall_ap, kSeq_nx, kSeq_rt, kSeq_bk, kSeq_ct, kSet_ap, kDrop_ap, kRt_ap, kNxE_ap, kAsg_ap, kFor_ap, kTurn_nx, kTurn_ct, kTurn_bk, kTurn_rt, kBody_ap, kWh_ap, kPar2_ap, kPar1_ap, kP3c_ap, kP3b_ap, kP3a_ap, kRg1_ap, kRg2b_ap, kRg2_ap, kSq_list, kSq_tuple, kEnum_ap, kZip2_ll, kZip1_ap, kLcE_ap, kLc_ap, kLt3_ap, kLt2_ap, kLt1_ap, kRun_nx, kRun_rt, vP_imm, vP_lst, vP_ft, wp_var, pP_imm, pP_lst, pP_ft, wp_peek, moP_ap, wp_move, lkP_imm, lkP_ft, wp_look, gsP_src, gsP_fT, gsP_ft, gsP_imm, wp_gSrc, gnP_imm, gnP_ft, gnP_lst, wp_gNm, gfP_dT, gfP_fT, wp_gFrz, kGt_dT, kGt_imm, kGt_ft, wp_gTmp, wp_C, wp_E, wp_I, wp_1, wp_2, wp_2s, wp_3, wp_oN, wp_oS, wp_T, wp_and, wp_or, wp_not, wp_yes, wp_mIf, wp_vAnd, wp_vOr, wp_vNot, wp_aNil, wp_aCons, wp_tup, wp_lst, wp_A, wp_tupRg, wp_lstRg, wp_gNil, wp_gCons, wp_call, wp_lc, wp_wSeq, wp_wEnum, wp_wZip, wp_wRange1, wp_wRange2, wp_sNx, wp_sBk, wp_sCt, wp_sRetN, wp_seq, wp_set, wp_drop, wp_sRet, wp_sIf, wp_asg, wp_tgName, wp_tgTup, wp_tgAll0, wp_tgAll1, wp_tgN1, wp_tgNs, wp_tgG, wp_tgS0, kTgS_ap, wp_tgS1, wp_sFor, wp_par, wp_par3, wp_run, kIx_ap, isLst_ap, wp_tgIx, kAp_ap, wp_append, kPo_ap, wp_popAt, d_add, d_addb, d_addT, d_addL, d_sub, d_mul, d_mulL, d_fdiv, d_mod, d_pow, d_neg, d_lt, d_le, d_gt, d_ge, d_eq, d_ne, d_eqT, d_neT, d_eqL, d_neL, d_eqT0, d_neT0, d_eqL0, d_neL0, d_eqS, d_neS, d_isN, d_isntN, d_lenT, d_lenL, d_abs, d_int, d_intb, d_tupT, d_tupL, tupP_ft, d_listT, d_listL, d_max, d_min, d_ixT, d_ixL, d_slT, d_slL, cut_to, cut_from, d_revL, d_revT, d_repr, wp_pk, wp_tup0, wp_wipe, wp_wipe0, wp_rest, wp_rest0, ix_zs, ap_zs, ap_z0, po_zs, at0_nat, at0_nat1, toN1, toN2, Int.toNat_natCast, rangeD_rng, rangeD_sub, d_sort, d_sortT, wp_dnewT, kDg2_ap, kDg1_ap, dkO_dT, dkO_fT, isSome_some, wp_dget2, kDp2_ap, kDp1_ap, wp_dput, kDE_lst, kDE_imm, kDE_ft, wp_dictE, List.getElem?_cons_zero, List.getElem?_cons_succ, List.set_cons_zero, List.set_cons_succ, List.length_cons, List.length_nil, List.length_map, List.map_cons, List.map_nil, List.replicate_succ, List.replicate_zero, List.nil_append, List.cons_append, Nat.reduceSub, Nat.reduceAdd, Nat.reduceLeDiff, Nat.reduceLT, Nat.zero_add, Nat.sub_self, decide_eq_true_eq, Bool.not_eq_true', decide_eq_false_iff_not, ite_true, ite_false, if_true, if_false, reduceIte, Bool.true_eq_false, Bool.false_eq_true, and_true, true_and, true_implies, not_true_eq_false, not_false_eq_true, Int.reduceLE, Int.reduceLT, gt_iff_lt, wp_indexT, itP_ft, itP_it, kIt_ap, kIr_ap, wp_disp2, kD1_ap, kD2_ap, kD3_ap, kD4_ap, kD5_ap, kD6_ap, wp_chain, kCn1_ap, kCn2_ap, kCnS_ap, kCn3_ap, kCn4_ap, d_sum, d_max1, d_min1, tgn hs9]
      refine wp_below2 (bh_row hu r1) hoc (by omega) (by omega) (tupI _) hs9 _ (fun hb => ?_) (fun hb => absurd b hb)
      nofun
      rw [belB_t b]
      rfl
    · rw [filt_nil fun r hr => ?_]
      · rw [List.map_nil]
        nofun
        rw [d_ne00]
        simp (disch := (first | omega | (simp only [List.length_set, List.length_map, List.length_append, List.length_take, List.length_drop, rng_len]; omega))) only [wp_ret, wp_bad, wp_ok, wp_if, kR_ap, slP_imm, slP_lst, slP_ft, kE_ap, kI_ap, k1_ap, k2b_ap, k2_ap, k2s_ap, k3c_ap, k3b_ap, k3_ap, kOI_ap, kT_ap, kAnd_ap, kOr_ap, kNot_ap, kVA_ap, kVO_ap, kVN_ap, kIf_ap, kC2_ap, kC1_ap, kTup_ap, kLst_ap, kA_ap, kG2_ap, kG1_ap, kCall_ap, kSeq_nx, kSeq_rt, kSeq_bk, kSeq_ct, kSet_ap, kDrop_ap, kRt_ap, kNxE_ap, kAsg_ap, kFor_ap, kTurn_nx, kTurn_ct, kTurn_bk, kTurn_rt, kBody_ap, kWh_ap, kPar2_ap, kPar1_ap, kP3c_ap, kP3b_ap, kP3a_ap, kRg1_ap, kRg2b_ap, kRg2_ap, kSq_list, kSq_tuple, kEnum_ap, kZip2_ll, kZip1_ap, kLcE_ap, kLc_ap, kLt3_ap, kLt2_ap, kLt1_ap, kRun_nx, kRun_rt, vP_imm, vP_lst, vP_ft, wp_var, pP_imm, pP_lst, pP_ft, wp_peek, moP_ap, wp_move, lkP_imm, lkP_ft, wp_look, gsP_src, gsP_fT, gsP_ft, gsP_imm, wp_gSrc, gnP_imm, gnP_ft, gnP_lst, wp_gNm, gfP_dT, gfP_fT, wp_gFrz, kGt_dT, kGt_imm, kGt_ft, wp_gTmp, wp_C, wp_E, wp_I, wp_1, wp_2, wp_2s, wp_3, wp_oN, wp_oS, wp_T, wp_and, wp_or, wp_not, wp_yes, wp_mIf, wp_vAnd, wp_vOr, wp_vNot, wp_aNil, wp_aCons, wp_tup, wp_lst, wp_A, wp_tupRg, wp_lstRg, wp_gNil, wp_gCons, wp_call, wp_lc, wp_wSeq, wp_wEnum, wp_wZip, wp_wRange1, wp_wRange2, wp_sNx, wp_sBk, wp_sCt, wp_sRetN, wp_seq, wp_set, wp_drop, wp_sRet, wp_sIf, wp_asg, wp_tgName, wp_tgTup, wp_tgAll0, wp_tgAll1, wp_tgN1, wp_tgNs, wp_tgG, wp_tgS0, kTgS_ap, wp_tgS1, wp_sFor, wp_par, wp_par3, wp_run, kIx_ap, isLst_ap, wp_tgIx, kAp_ap, wp_append, kPo_ap, wp_popAt, d_add, d_addb, d_addT, d_addL, d_sub, d_mul, d_mulL, d_fdiv, d_mod, d_pow, d_neg, d_lt, d_le, d_gt, d_ge, d_eq, d_ne, d_eqT, d_neT, d_eqL, d_neL, d_eqT0, d_neT0, d_eqL0, d_neL0, d_eqS, d_neS, d_isN, d_isntN, d_lenT, d_lenL, d_abs, d_int, d_intb, d_tupT, d_tupL, tupP_ft, d_listT, d_listL, d_max, d_min, d_ixT, d_ixL, d_slT, d_slL, cut_to, cut_from, d_revL, d_revT, d_repr, wp_pk, wp_tup0, wp_wipe, wp_wipe0, wp_rest, wp_rest0, ix_zs, ap_zs, ap_z0, po_zs, at0_nat, at0_nat1, toN1, toN2, Int.toNat_natCast, rangeD_rng, rangeD_sub, d_sort, d_sortT, wp_dnewT, kDg2_ap, kDg1_ap, dkO_dT, dkO_fT, isSome_some, wp_dget2, kDp2_ap, kDp1_ap, wp_dput, kDE_lst, kDE_imm, kDE_ft, wp_dictE, List.getElem?_cons_zero, List.getElem?_cons_succ, List.set_cons_zero, List.set_cons_succ, List.length_cons, List.length_nil, List.length_map, List.map_cons, List.map_nil, List.replicate_succ, List.replicate_zero, List.nil_append, List.cons_append, Nat.reduceSub, Nat.reduceAdd, Nat.reduceLeDiff, Nat.reduceLT, Nat.zero_add, Nat.sub_self, decide_eq_true_eq, Bool.not_eq_true', decide_eq_false_iff_not, ite_true, ite_false, if_true, if_false, reduceIte, Bool.true_eq_false, Bool.false_eq_true, and_true, true_and, true_implies, not_true_eq_false, not_false_eq_true, Int.reduceLE, Int.reduceLT, gt_iff_lt, wp_indexT, itP_ft, itP_it, kIt_ap, kIr_ap, wp_disp2, kD1_ap, kD2_ap, kD3_ap, kD4_ap, kD5_ap, kD6_ap, wp_chain, kCn1_ap, kCn2_ap, kCnS_ap, kCn3_ap, kCn4_ap, d_sum, d_max1, d_min1, tp hs9]
        rw [show PyData.tuple (zs (oc u ww)) = zT (oc u ww) from rfl, d_notinR]
        have hin : oc u ww ∈ (rowsB n w).map fun r => bh u r := by
          have P := part_ok hu lww
          refine List.mem_map.mpr ⟨_, rowsB_mem.mpr ⟨P.row, P.bel⟩, ?_⟩
          exact P.beh
        rw [decide_eq_true hin, Bool.not_true]
        nofun
        exact hR _ _ _
      · obtain ⟨q, hq, rfl⟩ := List.mem_map.mp hr
        obtain ⟨r1, r2⟩ := rowsB_mem.mp hq
        exact belB_t (top_two r1 hu lww.for hw r2)
theorem part3 (cs : List Int) (n : Nat) (u w x ww : List Int) (h1 : 1 ≤ n) (h4 : n ≤ 4) (hu : IsRow n u) (hw : IsRow n w) (hww : LeW n ww w) (REST : MS) (e2 e3 e4 e5 e6 e7 e8 e9 e10 e11 e12 e13 e14 e15 e16 : Option Sl) (K : Fl × Ev → Prop)
    (hR : ∀ e10 e11 e12 e13, WP (REST [some (.scr cs), some .src, e2, e3, some (.imm (zT u)), some (.imm (zT w)), e6, e7, e8, e9, e10, e11, e12, e13, e14, e15, e16]) K) : WP ((sSeq (sSet 12 (mLc (wSeq (mI (mCall 1 w__law_rows_below (gNm 5 gNil')))) true [11] tYes' (mI (mCall 2 w__law_behind (gNm 4 (gTmp (mCall 1 w__law_other_way (gNm 11 gNil')) gNil'))))))
    (sSeq (sSet 13 (mCall 2 w_less (gNm 4 (gNm 5 gNil'))))
    (sSeq (sIf (tOr (mT (mI (m2 neD (mI (mLc (wSeq (mVar 12)) true [10] (tNot (mT (mI (mCall 2 w__law_is_below (gNm 13 (gNm 10 gNil')))))) (mVar 10))) (mI (mLst aNil))))) (mT (mI (m2 notinD (mPeek 13) (mPeek 12))))) (sRet (mE (mC (.bool false)))) sNx)
    REST))) [some (.scr cs), some .src, e2, e3, some (.imm (zT u)), some (.imm (zT w)), e6, e7, e8, e9, e10, e11, e12, e13, e14, e15, e16]) K := by
  have lww := hww.lwd hw
  nofun
  refine wp_rows_below hw (by omega) (by omega) (tupI _) _ ?_
  nofun
  have hlen := rowsB_len h4 w
  refine ⟨by omega, lc_pure zT (fun _ => true) (fun r => zT (bh u (ivr n r))) _ _ _ (fun r hr => ?_) ?_⟩
  · obtain ⟨r1, r2⟩ := rowsB_mem.mp hr
    nofun
    refine wp_other_way r1 (by omega) (by omega) (tupI _) _ ?_
    nofun
    refine wp_behind hu (ivr_row r1) (by omega) (by omega) (tupI _) (tupF _) _ ?_
    nofun
  · have e1 : ((rowsB n w).filter fun _ => true).map (fun r => zT (bh u (ivr n r))) = ((rowsB n w).map fun r => bh u (ivr n r)).map zT := by
      rw [List.filter_eq_self.mpr fun _ _ => rfl, List.map_map]
      rfl
    rw [e1]
    nofun
    refine wp_less hu hw (by omega) (by omega) (tupI _) (tupI _) _ fun w2 s13 hw2 hs13 => ?_
    obtain rfl := hww.uniq hw2
    have hlo := low_row hu (wd_rev lww.wd)
    nofun
    refine ⟨by omega, lc_pure zT (fun r => !belB (low u ww.reverse) r) zT _ _ _ (fun r hr => ?_) ?_⟩
    · obtain ⟨q, hq, rfl⟩ := List.mem_map.mp hr
      obtain ⟨r1, r2⟩ := rowsB_mem.mp hq
      have b := low_below r1 hu lww.for hw r2
      simp (disch := (first | omega | (simp only [List.length_set, List.length_map, List.length_append, List.length_take, List.length_drop, rng_len]; omega))) only [wp_ret, wp_bad, wp_ok, wp_if, kR_ap, slP_imm, slP_lst, slP_ft, kE_ap, kI_ap, k1_ap, k2b_ap, k2_ap, k2s_ap, k3c_ap, k3b_ap, k3_ap, kOI_ap, kT_ap, kAnd_ap, kOr_ap, kNot_ap, kVA_ap, kVO_ap, kVN_ap, kIf_ap, kC2_ap, kC1_ap, kTup_ap, kLst_ap, kA_ap, kG2_ap, kG1_ap, kCall_ap, kSeq_nx, kSeq_rt, kSeq_bk, kSeq_ct, kSet_ap, kDrop_ap, kRt_ap, kNxE_ap, kAsg_ap, kFor_ap, kTurn_nx, kTurn_ct, kTurn_bk, kTurn_rt, kBody_ap, kWh_ap, kPar2_ap, kPar1_ap, kP3c_ap, kP3b_ap, kP3a_ap, kRg1_ap, kRg2b_ap, kRg2_ap, kSq_list, kSq_tuple, kEnum_ap, kZip2_ll, kZip1_ap, kLcE_ap, kLc_ap, kLt3_ap, kLt2_ap, kLt1_ap, kRun_nx, kRun_rt, vP_imm, vP_lst, vP_ft, wp_var, pP_imm, pP_lst, pP_ft, wp_peek, moP_ap, wp_move, lkP_imm, lkP_ft, wp_look, gsP_src, gsP_fT, gsP_ft, gsP_imm, wp_gSrc, gnP_imm, gnP_ft, gnP_lst, wp_gNm, gfP_dT, gfP_fT, wp_gFrz, kGt_dT, kGt_imm, kGt_ft, wp_gTmp, wp_C, wp_E, wp_I, wp_1, wp_2, wp_2s, wp_3, wp_oN, wp_oS, wp_T, wp_and, wp_or, wp_not, wp_yes, wp_mIf, wp_vAnd, wp_vOr, wp_vNot, wp_aNil, wp_aCons, wp_tup, wp_lst, wp_A, wp_tupRg, wp_lstRg, wp_gNil, wp_gCons, wp_call, wp_lc, wp_wSeq, wp_wEnum, wp_wZip, wp_wRange1, wp_wRange2, wp_sNx, wp_sBk, wp_sCt, wp_sRetN, wp_seq, wp_set, wp_drop, wp_sRet, wp_sIf, wp_asg, wp_tgName, wp_tgTup, wp_tgAll0, wp_tgAll1, wp_tgN1, wp_tgNs, wp_tgG, wp_tgS0, kTgS_ap, wp_tgS1, wp_sFor, wp_par, wp_par3, wp_run, kIx_ap, isLst_ap, wp_tgIx, kAp_ap, wp_append, kPo_ap, wp_popAt, d_add, d_addb, d_addT, d_addL, d_sub, d_mul, d_mulL, d_fdiv, d_mod, d_pow, d_neg, d_lt, d_le, d_gt, d_ge, d_eq, d_ne, d_eqT, d_neT, d_eqL, d_neL, d_eqT0, d_neT0, d_eqL0, d_neL0, d_eqS, d_neS, d_isN, d_isntN, d_lenT, d_lenL, d_abs, d_int, d_intb, d_tupT, d_tupL, tupP_ft, d_listT, d_listL, d_max, d_min, d_ixT, d_ixL, d_slT, d_slL, cut_to, cut_from, d_revL, d_revT, d_repr, wp_pk, wp_tup0, wp_wipe, wp_wipe0, wp_rest, wp_rest0, ix_zs, ap_zs, ap_z0, po_zs, at0_nat, at0_nat1, toN1, toN2, Int.toNat_natCast, rangeD_rng, rangeD_sub, d_sort, d_sortT, wp_dnewT, kDg2_ap, kDg1_ap, dkO_dT, dkO_fT, isSome_some, wp_dget2, kDp2_ap, kDp1_ap, wp_dput, kDE_lst, kDE_imm, kDE_ft, wp_dictE, List.getElem?_cons_zero, List.getElem?_cons_succ, List.set_cons_zero, List.set_cons_succ, List.length_cons, List.length_nil, List.length_map, List.map_cons, List.map_nil, List.replicate_succ, List.replicate_zero, List.nil_append, List.cons_append, Nat.reduceSub, Nat.reduceAdd, Nat.reduceLeDiff, Nat.reduceLT, Nat.zero_add, Nat.sub_self, decide_eq_true_eq, Bool.not_eq_true', decide_eq_false_iff_not, ite_true, ite_false, if_true, if_false, reduceIte, Bool.true_eq_false, Bool.false_eq_true, and_true, true_and, true_implies, not_true_eq_false, not_false_eq_true, Int.reduceLE, Int.reduceLT, gt_iff_lt, wp_indexT, itP_ft, itP_it, kIt_ap, kIr_ap, wp_disp2, kD1_ap, kD2_ap, kD3_ap, kD4_ap, kD5_ap, kD6_ap, wp_chain, kCn1_ap, kCn2_ap, kCnS_ap, kCn3_ap, kCn4_ap, d_sum, d_max1, d_min1, tgn hs13]
      refine wp_below2 hlo (bh_row hu (ivr_row r1)) (by omega) (by omega) hs13 (tupI _) _ (fun hb => ?_) (fun hb => absurd b hb)
      nofun
      rw [belB_t b]
      rfl
    · rw [filt_nil fun r hr => ?_]
      · rw [List.map_nil]
        nofun
        rw [d_ne00]
        simp (disch := (first | omega | (simp only [List.length_set, List.length_map, List.length_append, List.length_take, List.length_drop, rng_len]; omega))) only [wp_ret, wp_bad, wp_ok, wp_if, kR_ap, slP_imm, slP_lst, slP_ft, kE_ap, kI_ap, k1_ap, k2b_ap, k2_ap, k2s_ap, k3c_ap, k3b_ap, k3_ap, kOI_ap, kT_ap, kAnd_ap, kOr_ap, kNot_ap, kVA_ap, kVO_ap, kVN_ap, kIf_ap, kC2_ap, kC1_ap, kTup_ap, kLst_ap, kA_ap, kG2_ap, kG1_ap, kCall_ap, kSeq_nx, kSeq_rt, kSeq_bk, kSeq_ct, kSet_ap, kDrop_ap, kRt_ap, kNxE_ap, kAsg_ap, kFor_ap, kTurn_nx, kTurn_ct, kTurn_bk, kTurn_rt, kBody_ap, kWh_ap, kPar2_ap, kPar1_ap, kP3c_ap, kP3b_ap, kP3a_ap, kRg1_ap, kRg2b_ap, kRg2_ap, kSq_list, kSq_tuple, kEnum_ap, kZip2_ll, kZip1_ap, kLcE_ap, kLc_ap, kLt3_ap, kLt2_ap, kLt1_ap, kRun_nx, kRun_rt, vP_imm, vP_lst, vP_ft, wp_var, pP_imm, pP_lst, pP_ft, wp_peek, moP_ap, wp_move, lkP_imm, lkP_ft, wp_look, gsP_src, gsP_fT, gsP_ft, gsP_imm, wp_gSrc, gnP_imm, gnP_ft, gnP_lst, wp_gNm, gfP_dT, gfP_fT, wp_gFrz, kGt_dT, kGt_imm, kGt_ft, wp_gTmp, wp_C, wp_E, wp_I, wp_1, wp_2, wp_2s, wp_3, wp_oN, wp_oS, wp_T, wp_and, wp_or, wp_not, wp_yes, wp_mIf, wp_vAnd, wp_vOr, wp_vNot, wp_aNil, wp_aCons, wp_tup, wp_lst, wp_A, wp_tupRg, wp_lstRg, wp_gNil, wp_gCons, wp_call, wp_lc, wp_wSeq, wp_wEnum, wp_wZip, wp_wRange1, wp_wRange2, wp_sNx, wp_sBk, wp_sCt, wp_sRetN, wp_seq, wp_set, wp_drop, wp_sRet, wp_sIf, wp_asg, wp_tgName, wp_tgTup, wp_tgAll0, wp_tgAll1, wp_tgN1, wp_tgNs, wp_tgG, wp_tgS0, kTgS_ap, wp_tgS1, wp_sFor, wp_par, wp_par3, wp_run, kIx_ap, isLst_ap, wp_tgIx, kAp_ap, wp_append, kPo_ap, wp_popAt, d_add, d_addb, d_addT, d_addL, d_sub, d_mul, d_mulL, d_fdiv, d_mod, d_pow, d_neg, d_lt, d_le, d_gt, d_ge, d_eq, d_ne, d_eqT, d_neT, d_eqL, d_neL, d_eqT0, d_neT0, d_eqL0, d_neL0, d_eqS, d_neS, d_isN, d_isntN, d_lenT, d_lenL, d_abs, d_int, d_intb, d_tupT, d_tupL, tupP_ft, d_listT, d_listL, d_max, d_min, d_ixT, d_ixL, d_slT, d_slL, cut_to, cut_from, d_revL, d_revT, d_repr, wp_pk, wp_tup0, wp_wipe, wp_wipe0, wp_rest, wp_rest0, ix_zs, ap_zs, ap_z0, po_zs, at0_nat, at0_nat1, toN1, toN2, Int.toNat_natCast, rangeD_rng, rangeD_sub, d_sort, d_sortT, wp_dnewT, kDg2_ap, kDg1_ap, dkO_dT, dkO_fT, isSome_some, wp_dget2, kDp2_ap, kDp1_ap, wp_dput, kDE_lst, kDE_imm, kDE_ft, wp_dictE, List.getElem?_cons_zero, List.getElem?_cons_succ, List.set_cons_zero, List.set_cons_succ, List.length_cons, List.length_nil, List.length_map, List.map_cons, List.map_nil, List.replicate_succ, List.replicate_zero, List.nil_append, List.cons_append, Nat.reduceSub, Nat.reduceAdd, Nat.reduceLeDiff, Nat.reduceLT, Nat.zero_add, Nat.sub_self, decide_eq_true_eq, Bool.not_eq_true', decide_eq_false_iff_not, ite_true, ite_false, if_true, if_false, reduceIte, Bool.true_eq_false, Bool.false_eq_true, and_true, true_and, true_implies, not_true_eq_false, not_false_eq_true, Int.reduceLE, Int.reduceLT, gt_iff_lt, wp_indexT, itP_ft, itP_it, kIt_ap, kIr_ap, wp_disp2, kD1_ap, kD2_ap, kD3_ap, kD4_ap, kD5_ap, kD6_ap, wp_chain, kCn1_ap, kCn2_ap, kCnS_ap, kCn3_ap, kCn4_ap, d_sum, d_max1, d_min1, tp hs13]
        rw [show PyData.tuple (zs (low u ww.reverse)) = zT (low u ww.reverse) from rfl, d_notinR]
        have hin : low u ww.reverse ∈ (rowsB n w).map fun r => bh u (ivr n r) := by
          obtain ⟨o, ho1, ho2, ho3⟩ := low_in hu lww
          exact List.mem_map.mpr ⟨o, rowsB_mem.mpr ⟨ho1, ho2⟩, ho3.symm⟩
        rw [decide_eq_true hin, Bool.not_true]
        nofun
        exact hR _ _ _ _
      · obtain ⟨q, hq, rfl⟩ := List.mem_map.mp hr
        obtain ⟨r1, r2⟩ := rowsB_mem.mp hq
        exact belB_t (low_below r1 hu lww.for hw r2)
end T

set_option Elab.async false
set_option linter.all false
set_option autoImplicit false
set_option maxRecDepth 100000
namespace T
open PySem PySem.Spec L2 PV
local macro_rules | `(tactic| nofun) => `(tactic| simp (disch := (first | omega | (simp only [List.length_set, List.length_map, List.length_append, List.length_take, List.length_drop, rng_len]; omega))) only [wp_ret, wp_bad, wp_ok, wp_if, kR_ap, slP_imm, slP_lst, slP_ft, kE_ap, kI_ap, k1_ap, k2b_ap, k2_ap, k2s_ap, k3c_ap, k3b_ap, k3_ap, kOI_ap, kT_ap, kAnd_ap, kOr_ap, kNot_ap, kVA_ap, kVO_ap, kVN_ap, kIf_ap, kC2_ap, kC1_ap, kTup_ap, kLst_ap, kA_ap, kG2_ap, kG1_ap, kCall_ap, kSeq_nx, kSeq_rt, kSeq_bk, kSeq_ct, kSet_ap, kDrop_ap, kRt_ap, kNxE_ap, kAsg_ap, kFor_ap, kTurn_nx, kTurn_ct, kTurn_bk, kTurn_rt, kBody_ap, kWh_ap, kPar2_ap, kPar1_ap, kP3c_ap, kP3b_ap, kP3a_ap, kRg1_ap, kRg2b_ap, kRg2_ap, kSq_list, kSq_tuple, kEnum_ap, kZip2_ll, kZip1_ap, kLcE_ap, kLc_ap, kLt3_ap, kLt2_ap, kLt1_ap, kRun_nx, kRun_rt, vP_imm, vP_lst, vP_ft, wp_var, pP_imm, pP_lst, pP_ft, wp_peek, moP_ap, wp_move, lkP_imm, lkP_ft, wp_look, gsP_src, gsP_fT, gsP_ft, gsP_imm, wp_gSrc, gnP_imm, gnP_ft, gnP_lst, wp_gNm, gfP_dT, gfP_fT, wp_gFrz, kGt_dT, kGt_imm, kGt_ft, wp_gTmp, wp_C, wp_E, wp_I, wp_1, wp_2, wp_2s, wp_3, wp_oN, wp_oS, wp_T, wp_and, wp_or, wp_not, wp_yes, wp_mIf, wp_vAnd, wp_vOr, wp_vNot, wp_aNil, wp_aCons, wp_tup, wp_lst, wp_A, wp_tupRg, wp_lstRg, wp_gNil, wp_gCons, wp_call, wp_lc, wp_wSeq, wp_wEnum, wp_wZip, wp_wRange1, wp_wRange2, wp_sNx, wp_sBk, wp_sCt, wp_sRetN, wp_seq, wp_set, wp_drop, wp_sRet, wp_sIf, wp_asg, wp_tgName, wp_tgTup, wp_tgAll0, wp_tgAll1, wp_tgN1, wp_tgNs, wp_tgG, wp_tgS0, kTgS_ap, wp_tgS1, wp_sFor, wp_par, wp_par3, wp_run, kIx_ap, isLst_ap, wp_tgIx, kAp_ap, wp_append, kPo_ap, wp_popAt, d_add, d_addb, d_addT, d_addL, d_sub, d_mul, d_mulL, d_fdiv, d_mod, d_pow, d_neg, d_lt, d_le, d_gt, d_ge, d_eq, d_ne, d_eqT, d_neT, d_eqL, d_neL, d_eqT0, d_neT0, d_eqL0, d_neL0, d_eqS, d_neS, d_isN, d_isntN, d_lenT, d_lenL, d_abs, d_int, d_intb, d_tupT, d_tupL, tupP_ft, d_listT, d_listL, d_max, d_min, d_ixT, d_ixL, d_slT, d_slL, cut_to, cut_from, d_revL, d_revT, d_repr, wp_pk, wp_tup0, wp_wipe, wp_wipe0, wp_rest, wp_rest0, ix_zs, ap_zs, ap_z0, po_zs, at0_nat, at0_nat1, toN1, toN2, Int.toNat_natCast, rangeD_rng, rangeD_sub, d_sort, d_sortT, wp_dnewT, kDg2_ap, kDg1_ap, dkO_dT, dkO_fT, isSome_some, wp_dget2, kDp2_ap, kDp1_ap, wp_dput, kDE_lst, kDE_imm, kDE_ft, wp_dictE, List.getElem?_cons_zero, List.getElem?_cons_succ, List.set_cons_zero, List.set_cons_succ, List.length_cons, List.length_nil, List.length_map, List.map_cons, List.map_nil, List.replicate_succ, List.replicate_zero, List.nil_append, List.cons_append, Nat.reduceSub, Nat.reduceAdd, Nat.reduceLeDiff, Nat.reduceLT, Nat.zero_add, Nat.sub_self, decide_eq_true_eq, Bool.not_eq_true', decide_eq_false_iff_not, ite_true, ite_false, if_true, if_false, reduceIte, Bool.true_eq_false, Bool.false_eq_true, and_true, true_and, true_implies, not_true_eq_false, not_false_eq_true, Int.reduceLE, Int.reduceLT, gt_iff_lt, wp_indexT, itP_ft, itP_it, kIt_ap, kIr_ap, wp_disp2, kD1_ap, kD2_ap, kD3_ap, kD4_ap, kD5_ap, kD6_ap, wp_chain, kCn1_ap, kCn2_ap, kCnS_ap, kCn3_ap, kCn4_ap, d_sum, d_max1, d_min1])
theorem part4 (cs : List Int) (n : Nat) (u w x : List Int) (h1 : 1 ≤ n) (h4 : n ≤ 4) (hu : IsRow n u) (hw : IsRow n w) (hx : IsRow n x) (REST : MS) (e2 e3 e4 e5 e6 e7 e8 e9 e10 e11 e12 e13 e14 e15 e16 : Option Sl) (K : Fl × Ev → Prop)
    (hR : WP (REST [some (.scr cs), some .src, e2, e3, some (.imm (zT u)), some (.imm (zT w)), some (.imm (zT x)), e7, e8, e9, e10, e11, e12, e13, e14, e15, e16]) K) : WP ((sSeq (sIf (tOr (mT (mI (m2 neD (mI (mCall 2 w_once (gTmp (mCall 2 w_once (gNm 4 (gNm 5 gNil'))) (gNm 6 gNil')))) (mI (mCall 2 w_once (gNm 4 (gTmp (mCall 2 w_once (gNm 5 (gNm 6 gNil'))) gNil'))))))) (mT (mI (m2 neD (mI (mCall 2 w_less (gTmp (mCall 2 w_less (gNm 4 (gNm 5 gNil'))) (gNm 6 gNil')))) (mI (mCall 2 w_less (gNm 4 (gTmp (mCall 2 w_once (gNm 6 (gNm 5 gNil'))) gNil')))))))) (sRet (mE (mC (.bool false)))) sNx)
    REST) [some (.scr cs), some .src, e2, e3, some (.imm (zT u)), some (.imm (zT w)), some (.imm (zT x)), e7, e8, e9, e10, e11, e12, e13, e14, e15, e16]) K := by
  nofun
  refine wp_once hu hw (by omega) (by omega) (tupI _) (tupI _) _ fun ww sa hww hsa => ?_
  have lww := hww.lwd hw
  obtain ⟨rw_, hrw⟩ := RWd.ex hw
  have hsa : TupS sa (zs (oc u ww)) := hsa
  have ha := oc_row hu lww.wd
  simp (disch := (first | omega | (simp only [List.length_set, List.length_map, List.length_append, List.length_take, List.length_drop, rng_len]; omega))) only [wp_ret, wp_bad, wp_ok, wp_if, kR_ap, slP_imm, slP_lst, slP_ft, kE_ap, kI_ap, k1_ap, k2b_ap, k2_ap, k2s_ap, k3c_ap, k3b_ap, k3_ap, kOI_ap, kT_ap, kAnd_ap, kOr_ap, kNot_ap, kVA_ap, kVO_ap, kVN_ap, kIf_ap, kC2_ap, kC1_ap, kTup_ap, kLst_ap, kA_ap, kG2_ap, kG1_ap, kCall_ap, kSeq_nx, kSeq_rt, kSeq_bk, kSeq_ct, kSet_ap, kDrop_ap, kRt_ap, kNxE_ap, kAsg_ap, kFor_ap, kTurn_nx, kTurn_ct, kTurn_bk, kTurn_rt, kBody_ap, kWh_ap, kPar2_ap, kPar1_ap, kP3c_ap, kP3b_ap, kP3a_ap, kRg1_ap, kRg2b_ap, kRg2_ap, kSq_list, kSq_tuple, kEnum_ap, kZip2_ll, kZip1_ap, kLcE_ap, kLc_ap, kLt3_ap, kLt2_ap, kLt1_ap, kRun_nx, kRun_rt, vP_imm, vP_lst, vP_ft, wp_var, pP_imm, pP_lst, pP_ft, wp_peek, moP_ap, wp_move, lkP_imm, lkP_ft, wp_look, gsP_src, gsP_fT, gsP_ft, gsP_imm, wp_gSrc, gnP_imm, gnP_ft, gnP_lst, wp_gNm, gfP_dT, gfP_fT, wp_gFrz, kGt_dT, kGt_imm, kGt_ft, wp_gTmp, wp_C, wp_E, wp_I, wp_1, wp_2, wp_2s, wp_3, wp_oN, wp_oS, wp_T, wp_and, wp_or, wp_not, wp_yes, wp_mIf, wp_vAnd, wp_vOr, wp_vNot, wp_aNil, wp_aCons, wp_tup, wp_lst, wp_A, wp_tupRg, wp_lstRg, wp_gNil, wp_gCons, wp_call, wp_lc, wp_wSeq, wp_wEnum, wp_wZip, wp_wRange1, wp_wRange2, wp_sNx, wp_sBk, wp_sCt, wp_sRetN, wp_seq, wp_set, wp_drop, wp_sRet, wp_sIf, wp_asg, wp_tgName, wp_tgTup, wp_tgAll0, wp_tgAll1, wp_tgN1, wp_tgNs, wp_tgG, wp_tgS0, kTgS_ap, wp_tgS1, wp_sFor, wp_par, wp_par3, wp_run, kIx_ap, isLst_ap, wp_tgIx, kAp_ap, wp_append, kPo_ap, wp_popAt, d_add, d_addb, d_addT, d_addL, d_sub, d_mul, d_mulL, d_fdiv, d_mod, d_pow, d_neg, d_lt, d_le, d_gt, d_ge, d_eq, d_ne, d_eqT, d_neT, d_eqL, d_neL, d_eqT0, d_neT0, d_eqL0, d_neL0, d_eqS, d_neS, d_isN, d_isntN, d_lenT, d_lenL, d_abs, d_int, d_intb, d_tupT, d_tupL, tupP_ft, d_listT, d_listL, d_max, d_min, d_ixT, d_ixL, d_slT, d_slL, cut_to, cut_from, d_revL, d_revT, d_repr, wp_pk, wp_tup0, wp_wipe, wp_wipe0, wp_rest, wp_rest0, ix_zs, ap_zs, ap_z0, po_zs, at0_nat, at0_nat1, toN1, toN2, Int.toNat_natCast, rangeD_rng, rangeD_sub, d_sort, d_sortT, wp_dnewT, kDg2_ap, kDg1_ap, dkO_dT, dkO_fT, isSome_some, wp_dget2, kDp2_ap, kDp1_ap, wp_dput, kDE_lst, kDE_imm, kDE_ft, wp_dictE, List.getElem?_cons_zero, List.getElem?_cons_succ, List.set_cons_zero, List.set_cons_succ, List.length_cons, List.length_nil, List.length_map, List.map_cons, List.map_nil, List.replicate_succ, List.replicate_zero, List.nil_append, List.cons_append, Nat.reduceSub, Nat.reduceAdd, Nat.reduceLeDiff, Nat.reduceLT, Nat.zero_add, Nat.sub_self, decide_eq_true_eq, Bool.not_eq_true', decide_eq_false_iff_not, ite_true, ite_false, if_true, if_false, reduceIte, Bool.true_eq_false, Bool.false_eq_true, and_true, true_and, true_implies, not_true_eq_false, not_false_eq_true, Int.reduceLE, Int.reduceLT, gt_iff_lt, wp_indexT, itP_ft, itP_it, kIt_ap, kIr_ap, wp_disp2, kD1_ap, kD2_ap, kD3_ap, kD4_ap, kD5_ap, kD6_ap, wp_chain, kCn1_ap, kCn2_ap, kCnS_ap, kCn3_ap, kCn4_ap, d_sum, d_max1, d_min1, tgt hsa]
  refine wp_once ha hx (by omega) (by omega) hsa (tupI _) _ fun wx sb hwx hsb => ?_
  have lwx := hwx.lwd hx
  have hsb : TupS sb (zs (oc (oc u ww) wx)) := hsb
  simp (disch := (first | omega | (simp only [List.length_set, List.length_map, List.length_append, List.length_take, List.length_drop, rng_len]; omega))) only [wp_ret, wp_bad, wp_ok, wp_if, kR_ap, slP_imm, slP_lst, slP_ft, kE_ap, kI_ap, k1_ap, k2b_ap, k2_ap, k2s_ap, k3c_ap, k3b_ap, k3_ap, kOI_ap, kT_ap, kAnd_ap, kOr_ap, kNot_ap, kVA_ap, kVO_ap, kVN_ap, kIf_ap, kC2_ap, kC1_ap, kTup_ap, kLst_ap, kA_ap, kG2_ap, kG1_ap, kCall_ap, kSeq_nx, kSeq_rt, kSeq_bk, kSeq_ct, kSet_ap, kDrop_ap, kRt_ap, kNxE_ap, kAsg_ap, kFor_ap, kTurn_nx, kTurn_ct, kTurn_bk, kTurn_rt, kBody_ap, kWh_ap, kPar2_ap, kPar1_ap, kP3c_ap, kP3b_ap, kP3a_ap, kRg1_ap, kRg2b_ap, kRg2_ap, kSq_list, kSq_tuple, kEnum_ap, kZip2_ll, kZip1_ap, kLcE_ap, kLc_ap, kLt3_ap, kLt2_ap, kLt1_ap, kRun_nx, kRun_rt, vP_imm, vP_lst, vP_ft, wp_var, pP_imm, pP_lst, pP_ft, wp_peek, moP_ap, wp_move, lkP_imm, lkP_ft, wp_look, gsP_src, gsP_fT, gsP_ft, gsP_imm, wp_gSrc, gnP_imm, gnP_ft, gnP_lst, wp_gNm, gfP_dT, gfP_fT, wp_gFrz, kGt_dT, kGt_imm, kGt_ft, wp_gTmp, wp_C, wp_E, wp_I, wp_1, wp_2, wp_2s, wp_3, wp_oN, wp_oS, wp_T, wp_and, wp_or, wp_not, wp_yes, wp_mIf, wp_vAnd, wp_vOr, wp_vNot, wp_aNil, wp_aCons, wp_tup, wp_lst, wp_A, wp_tupRg, wp_lstRg, wp_gNil, wp_gCons, wp_call, wp_lc, wp_wSeq, wp_wEnum, wp_wZip, wp_wRange1, wp_wRange2, wp_sNx, wp_sBk, wp_sCt, wp_sRetN, wp_seq, wp_set, wp_drop, wp_sRet, wp_sIf, wp_asg, wp_tgName, wp_tgTup, wp_tgAll0, wp_tgAll1, wp_tgN1, wp_tgNs, wp_tgG, wp_tgS0, kTgS_ap, wp_tgS1, wp_sFor, wp_par, wp_par3, wp_run, kIx_ap, isLst_ap, wp_tgIx, kAp_ap, wp_append, kPo_ap, wp_popAt, d_add, d_addb, d_addT, d_addL, d_sub, d_mul, d_mulL, d_fdiv, d_mod, d_pow, d_neg, d_lt, d_le, d_gt, d_ge, d_eq, d_ne, d_eqT, d_neT, d_eqL, d_neL, d_eqT0, d_neT0, d_eqL0, d_neL0, d_eqS, d_neS, d_isN, d_isntN, d_lenT, d_lenL, d_abs, d_int, d_intb, d_tupT, d_tupL, tupP_ft, d_listT, d_listL, d_max, d_min, d_ixT, d_ixL, d_slT, d_slL, cut_to, cut_from, d_revL, d_revT, d_repr, wp_pk, wp_tup0, wp_wipe, wp_wipe0, wp_rest, wp_rest0, ix_zs, ap_zs, ap_z0, po_zs, at0_nat, at0_nat1, toN1, toN2, Int.toNat_natCast, rangeD_rng, rangeD_sub, d_sort, d_sortT, wp_dnewT, kDg2_ap, kDg1_ap, dkO_dT, dkO_fT, isSome_some, wp_dget2, kDp2_ap, kDp1_ap, wp_dput, kDE_lst, kDE_imm, kDE_ft, wp_dictE, List.getElem?_cons_zero, List.getElem?_cons_succ, List.set_cons_zero, List.set_cons_succ, List.length_cons, List.length_nil, List.length_map, List.map_cons, List.map_nil, List.replicate_succ, List.replicate_zero, List.nil_append, List.cons_append, Nat.reduceSub, Nat.reduceAdd, Nat.reduceLeDiff, Nat.reduceLT, Nat.zero_add, Nat.sub_self, decide_eq_true_eq, Bool.not_eq_true', decide_eq_false_iff_not, ite_true, ite_false, if_true, if_false, reduceIte, Bool.true_eq_false, Bool.false_eq_true, and_true, true_and, true_implies, not_true_eq_false, not_false_eq_true, Int.reduceLE, Int.reduceLT, gt_iff_lt, wp_indexT, itP_ft, itP_it, kIt_ap, kIr_ap, wp_disp2, kD1_ap, kD2_ap, kD3_ap, kD4_ap, kD5_ap, kD6_ap, wp_chain, kCn1_ap, kCn2_ap, kCnS_ap, kCn3_ap, kCn4_ap, d_sum, d_max1, d_min1, tsl hsb]
  refine wp_once hw hx (by omega) (by omega) (tupI _) (tupI _) _ fun wx2 sc hwx2 hsc => ?_
  obtain rfl := hwx.uniq hwx2
  have hsc : TupS sc (zs (oc w wx)) := hsc
  have hc := oc_row hw lwx.wd
  simp (disch := (first | omega | (simp only [List.length_set, List.length_map, List.length_append, List.length_take, List.length_drop, rng_len]; omega))) only [wp_ret, wp_bad, wp_ok, wp_if, kR_ap, slP_imm, slP_lst, slP_ft, kE_ap, kI_ap, k1_ap, k2b_ap, k2_ap, k2s_ap, k3c_ap, k3b_ap, k3_ap, kOI_ap, kT_ap, kAnd_ap, kOr_ap, kNot_ap, kVA_ap, kVO_ap, kVN_ap, kIf_ap, kC2_ap, kC1_ap, kTup_ap, kLst_ap, kA_ap, kG2_ap, kG1_ap, kCall_ap, kSeq_nx, kSeq_rt, kSeq_bk, kSeq_ct, kSet_ap, kDrop_ap, kRt_ap, kNxE_ap, kAsg_ap, kFor_ap, kTurn_nx, kTurn_ct, kTurn_bk, kTurn_rt, kBody_ap, kWh_ap, kPar2_ap, kPar1_ap, kP3c_ap, kP3b_ap, kP3a_ap, kRg1_ap, kRg2b_ap, kRg2_ap, kSq_list, kSq_tuple, kEnum_ap, kZip2_ll, kZip1_ap, kLcE_ap, kLc_ap, kLt3_ap, kLt2_ap, kLt1_ap, kRun_nx, kRun_rt, vP_imm, vP_lst, vP_ft, wp_var, pP_imm, pP_lst, pP_ft, wp_peek, moP_ap, wp_move, lkP_imm, lkP_ft, wp_look, gsP_src, gsP_fT, gsP_ft, gsP_imm, wp_gSrc, gnP_imm, gnP_ft, gnP_lst, wp_gNm, gfP_dT, gfP_fT, wp_gFrz, kGt_dT, kGt_imm, kGt_ft, wp_gTmp, wp_C, wp_E, wp_I, wp_1, wp_2, wp_2s, wp_3, wp_oN, wp_oS, wp_T, wp_and, wp_or, wp_not, wp_yes, wp_mIf, wp_vAnd, wp_vOr, wp_vNot, wp_aNil, wp_aCons, wp_tup, wp_lst, wp_A, wp_tupRg, wp_lstRg, wp_gNil, wp_gCons, wp_call, wp_lc, wp_wSeq, wp_wEnum, wp_wZip, wp_wRange1, wp_wRange2, wp_sNx, wp_sBk, wp_sCt, wp_sRetN, wp_seq, wp_set, wp_drop, wp_sRet, wp_sIf, wp_asg, wp_tgName, wp_tgTup, wp_tgAll0, wp_tgAll1, wp_tgN1, wp_tgNs, wp_tgG, wp_tgS0, kTgS_ap, wp_tgS1, wp_sFor, wp_par, wp_par3, wp_run, kIx_ap, isLst_ap, wp_tgIx, kAp_ap, wp_append, kPo_ap, wp_popAt, d_add, d_addb, d_addT, d_addL, d_sub, d_mul, d_mulL, d_fdiv, d_mod, d_pow, d_neg, d_lt, d_le, d_gt, d_ge, d_eq, d_ne, d_eqT, d_neT, d_eqL, d_neL, d_eqT0, d_neT0, d_eqL0, d_neL0, d_eqS, d_neS, d_isN, d_isntN, d_lenT, d_lenL, d_abs, d_int, d_intb, d_tupT, d_tupL, tupP_ft, d_listT, d_listL, d_max, d_min, d_ixT, d_ixL, d_slT, d_slL, cut_to, cut_from, d_revL, d_revT, d_repr, wp_pk, wp_tup0, wp_wipe, wp_wipe0, wp_rest, wp_rest0, ix_zs, ap_zs, ap_z0, po_zs, at0_nat, at0_nat1, toN1, toN2, Int.toNat_natCast, rangeD_rng, rangeD_sub, d_sort, d_sortT, wp_dnewT, kDg2_ap, kDg1_ap, dkO_dT, dkO_fT, isSome_some, wp_dget2, kDp2_ap, kDp1_ap, wp_dput, kDE_lst, kDE_imm, kDE_ft, wp_dictE, List.getElem?_cons_zero, List.getElem?_cons_succ, List.set_cons_zero, List.set_cons_succ, List.length_cons, List.length_nil, List.length_map, List.map_cons, List.map_nil, List.replicate_succ, List.replicate_zero, List.nil_append, List.cons_append, Nat.reduceSub, Nat.reduceAdd, Nat.reduceLeDiff, Nat.reduceLT, Nat.zero_add, Nat.sub_self, decide_eq_true_eq, Bool.not_eq_true', decide_eq_false_iff_not, ite_true, ite_false, if_true, if_false, reduceIte, Bool.true_eq_false, Bool.false_eq_true, and_true, true_and, true_implies, not_true_eq_false, not_false_eq_true, Int.reduceLE, Int.reduceLT, gt_iff_lt, wp_indexT, itP_ft, itP_it, kIt_ap, kIr_ap, wp_disp2, kD1_ap, kD2_ap, kD3_ap, kD4_ap, kD5_ap, kD6_ap, wp_chain, kCn1_ap, kCn2_ap, kCnS_ap, kCn3_ap, kCn4_ap, d_sum, d_max1, d_min1, tgt hsc]
  refine wp_once hu hc (by omega) (by omega) (tupI _) hsc _ fun wy sd hwy hsd => ?_
  have hsd : TupS sd (zs (oc u wy)) := hsd
  have e1 : oc (oc u ww) wx = oc u wy := by
    rw [oc_two lww.for hrw.for hu]
    exact oc_assoc (x := x) hu hrw lwx.wd (hwy.lwd hc).for
  simp (disch := (first | omega | (simp only [List.length_set, List.length_map, List.length_append, List.length_take, List.length_drop, rng_len]; omega))) only [wp_ret, wp_bad, wp_ok, wp_if, kR_ap, slP_imm, slP_lst, slP_ft, kE_ap, kI_ap, k1_ap, k2b_ap, k2_ap, k2s_ap, k3c_ap, k3b_ap, k3_ap, kOI_ap, kT_ap, kAnd_ap, kOr_ap, kNot_ap, kVA_ap, kVO_ap, kVN_ap, kIf_ap, kC2_ap, kC1_ap, kTup_ap, kLst_ap, kA_ap, kG2_ap, kG1_ap, kCall_ap, kSeq_nx, kSeq_rt, kSeq_bk, kSeq_ct, kSet_ap, kDrop_ap, kRt_ap, kNxE_ap, kAsg_ap, kFor_ap, kTurn_nx, kTurn_ct, kTurn_bk, kTurn_rt, kBody_ap, kWh_ap, kPar2_ap, kPar1_ap, kP3c_ap, kP3b_ap, kP3a_ap, kRg1_ap, kRg2b_ap, kRg2_ap, kSq_list, kSq_tuple, kEnum_ap, kZip2_ll, kZip1_ap, kLcE_ap, kLc_ap, kLt3_ap, kLt2_ap, kLt1_ap, kRun_nx, kRun_rt, vP_imm, vP_lst, vP_ft, wp_var, pP_imm, pP_lst, pP_ft, wp_peek, moP_ap, wp_move, lkP_imm, lkP_ft, wp_look, gsP_src, gsP_fT, gsP_ft, gsP_imm, wp_gSrc, gnP_imm, gnP_ft, gnP_lst, wp_gNm, gfP_dT, gfP_fT, wp_gFrz, kGt_dT, kGt_imm, kGt_ft, wp_gTmp, wp_C, wp_E, wp_I, wp_1, wp_2, wp_2s, wp_3, wp_oN, wp_oS, wp_T, wp_and, wp_or, wp_not, wp_yes, wp_mIf, wp_vAnd, wp_vOr, wp_vNot, wp_aNil, wp_aCons, wp_tup, wp_lst, wp_A, wp_tupRg, wp_lstRg, wp_gNil, wp_gCons, wp_call, wp_lc, wp_wSeq, wp_wEnum, wp_wZip, wp_wRange1, wp_wRange2, wp_sNx, wp_sBk, wp_sCt, wp_sRetN, wp_seq, wp_set, wp_drop, wp_sRet, wp_sIf, wp_asg, wp_tgName, wp_tgTup, wp_tgAll0, wp_tgAll1, wp_tgN1, wp_tgNs, wp_tgG, wp_tgS0, kTgS_ap, wp_tgS1, wp_sFor, wp_par, wp_par3, wp_run, kIx_ap, isLst_ap, wp_tgIx, kAp_ap, wp_append, kPo_ap, wp_popAt, d_add, d_addb, d_addT, d_addL, d_sub, d_mul, d_mulL, d_fdiv, d_mod, d_pow, d_neg, d_lt, d_le, d_gt, d_ge, d_eq, d_ne, d_eqT, d_neT, d_eqL, d_neL, d_eqT0, d_neT0, d_eqL0, d_neL0, d_eqS, d_neS, d_isN, d_isntN, d_lenT, d_lenL, d_abs, d_int, d_intb, d_tupT, d_tupL, tupP_ft, d_listT, d_listL, d_max, d_min, d_ixT, d_ixL, d_slT, d_slL, cut_to, cut_from, d_revL, d_revT, d_repr, wp_pk, wp_tup0, wp_wipe, wp_wipe0, wp_rest, wp_rest0, ix_zs, ap_zs, ap_z0, po_zs, at0_nat, at0_nat1, toN1, toN2, Int.toNat_natCast, rangeD_rng, rangeD_sub, d_sort, d_sortT, wp_dnewT, kDg2_ap, kDg1_ap, dkO_dT, dkO_fT, isSome_some, wp_dget2, kDp2_ap, kDp1_ap, wp_dput, kDE_lst, kDE_imm, kDE_ft, wp_dictE, List.getElem?_cons_zero, List.getElem?_cons_succ, List.set_cons_zero, List.set_cons_succ, List.length_cons, List.length_nil, List.length_map, List.map_cons, List.map_nil, List.replicate_succ, List.replicate_zero, List.nil_append, List.cons_append, Nat.reduceSub, Nat.reduceAdd, Nat.reduceLeDiff, Nat.reduceLT, Nat.zero_add, Nat.sub_self, decide_eq_true_eq, Bool.not_eq_true', decide_eq_false_iff_not, ite_true, ite_false, if_true, if_false, reduceIte, Bool.true_eq_false, Bool.false_eq_true, and_true, true_and, true_implies, not_true_eq_false, not_false_eq_true, Int.reduceLE, Int.reduceLT, gt_iff_lt, wp_indexT, itP_ft, itP_it, kIt_ap, kIr_ap, wp_disp2, kD1_ap, kD2_ap, kD3_ap, kD4_ap, kD5_ap, kD6_ap, wp_chain, kCn1_ap, kCn2_ap, kCnS_ap, kCn3_ap, kCn4_ap, d_sum, d_max1, d_min1, tsl hsd]
  rw [e1]
  nofun
  refine wp_less hu hw (by omega) (by omega) (tupI _) (tupI _) _ fun ww2 se hww2 hse => ?_
  obtain rfl := hww.uniq hww2
  have he := low_row hu (wd_rev lww.wd)
  simp (disch := (first | omega | (simp only [List.length_set, List.length_map, List.length_append, List.length_take, List.length_drop, rng_len]; omega))) only [wp_ret, wp_bad, wp_ok, wp_if, kR_ap, slP_imm, slP_lst, slP_ft, kE_ap, kI_ap, k1_ap, k2b_ap, k2_ap, k2s_ap, k3c_ap, k3b_ap, k3_ap, kOI_ap, kT_ap, kAnd_ap, kOr_ap, kNot_ap, kVA_ap, kVO_ap, kVN_ap, kIf_ap, kC2_ap, kC1_ap, kTup_ap, kLst_ap, kA_ap, kG2_ap, kG1_ap, kCall_ap, kSeq_nx, kSeq_rt, kSeq_bk, kSeq_ct, kSet_ap, kDrop_ap, kRt_ap, kNxE_ap, kAsg_ap, kFor_ap, kTurn_nx, kTurn_ct, kTurn_bk, kTurn_rt, kBody_ap, kWh_ap, kPar2_ap, kPar1_ap, kP3c_ap, kP3b_ap, kP3a_ap, kRg1_ap, kRg2b_ap, kRg2_ap, kSq_list, kSq_tuple, kEnum_ap, kZip2_ll, kZip1_ap, kLcE_ap, kLc_ap, kLt3_ap, kLt2_ap, kLt1_ap, kRun_nx, kRun_rt, vP_imm, vP_lst, vP_ft, wp_var, pP_imm, pP_lst, pP_ft, wp_peek, moP_ap, wp_move, lkP_imm, lkP_ft, wp_look, gsP_src, gsP_fT, gsP_ft, gsP_imm, wp_gSrc, gnP_imm, gnP_ft, gnP_lst, wp_gNm, gfP_dT, gfP_fT, wp_gFrz, kGt_dT, kGt_imm, kGt_ft, wp_gTmp, wp_C, wp_E, wp_I, wp_1, wp_2, wp_2s, wp_3, wp_oN, wp_oS, wp_T, wp_and, wp_or, wp_not, wp_yes, wp_mIf, wp_vAnd, wp_vOr, wp_vNot, wp_aNil, wp_aCons, wp_tup, wp_lst, wp_A, wp_tupRg, wp_lstRg, wp_gNil, wp_gCons, wp_call, wp_lc, wp_wSeq, wp_wEnum, wp_wZip, wp_wRange1, wp_wRange2, wp_sNx, wp_sBk, wp_sCt, wp_sRetN, wp_seq, wp_set, wp_drop, wp_sRet, wp_sIf, wp_asg, wp_tgName, wp_tgTup, wp_tgAll0, wp_tgAll1, wp_tgN1, wp_tgNs, wp_tgG, wp_tgS0, kTgS_ap, wp_tgS1, wp_sFor, wp_par, wp_par3, wp_run, kIx_ap, isLst_ap, wp_tgIx, kAp_ap, wp_append, kPo_ap, wp_popAt, d_add, d_addb, d_addT, d_addL, d_sub, d_mul, d_mulL, d_fdiv, d_mod, d_pow, d_neg, d_lt, d_le, d_gt, d_ge, d_eq, d_ne, d_eqT, d_neT, d_eqL, d_neL, d_eqT0, d_neT0, d_eqL0, d_neL0, d_eqS, d_neS, d_isN, d_isntN, d_lenT, d_lenL, d_abs, d_int, d_intb, d_tupT, d_tupL, tupP_ft, d_listT, d_listL, d_max, d_min, d_ixT, d_ixL, d_slT, d_slL, cut_to, cut_from, d_revL, d_revT, d_repr, wp_pk, wp_tup0, wp_wipe, wp_wipe0, wp_rest, wp_rest0, ix_zs, ap_zs, ap_z0, po_zs, at0_nat, at0_nat1, toN1, toN2, Int.toNat_natCast, rangeD_rng, rangeD_sub, d_sort, d_sortT, wp_dnewT, kDg2_ap, kDg1_ap, dkO_dT, dkO_fT, isSome_some, wp_dget2, kDp2_ap, kDp1_ap, wp_dput, kDE_lst, kDE_imm, kDE_ft, wp_dictE, List.getElem?_cons_zero, List.getElem?_cons_succ, List.set_cons_zero, List.set_cons_succ, List.length_cons, List.length_nil, List.length_map, List.map_cons, List.map_nil, List.replicate_succ, List.replicate_zero, List.nil_append, List.cons_append, Nat.reduceSub, Nat.reduceAdd, Nat.reduceLeDiff, Nat.reduceLT, Nat.zero_add, Nat.sub_self, decide_eq_true_eq, Bool.not_eq_true', decide_eq_false_iff_not, ite_true, ite_false, if_true, if_false, reduceIte, Bool.true_eq_false, Bool.false_eq_true, and_true, true_and, true_implies, not_true_eq_false, not_false_eq_true, Int.reduceLE, Int.reduceLT, gt_iff_lt, wp_indexT, itP_ft, itP_it, kIt_ap, kIr_ap, wp_disp2, kD1_ap, kD2_ap, kD3_ap, kD4_ap, kD5_ap, kD6_ap, wp_chain, kCn1_ap, kCn2_ap, kCnS_ap, kCn3_ap, kCn4_ap, d_sum, d_max1, d_min1, tgt hse]
  refine wp_less he hx (by omega) (by omega) hse (tupI _) _ fun wx3 sf hwx3 hsf => ?_
  obtain rfl := hwx.uniq hwx3
  simp (disch := (first | omega | (simp only [List.length_set, List.length_map, List.length_append, List.length_take, List.length_drop, rng_len]; omega))) only [wp_ret, wp_bad, wp_ok, wp_if, kR_ap, slP_imm, slP_lst, slP_ft, kE_ap, kI_ap, k1_ap, k2b_ap, k2_ap, k2s_ap, k3c_ap, k3b_ap, k3_ap, kOI_ap, kT_ap, kAnd_ap, kOr_ap, kNot_ap, kVA_ap, kVO_ap, kVN_ap, kIf_ap, kC2_ap, kC1_ap, kTup_ap, kLst_ap, kA_ap, kG2_ap, kG1_ap, kCall_ap, kSeq_nx, kSeq_rt, kSeq_bk, kSeq_ct, kSet_ap, kDrop_ap, kRt_ap, kNxE_ap, kAsg_ap, kFor_ap, kTurn_nx, kTurn_ct, kTurn_bk, kTurn_rt, kBody_ap, kWh_ap, kPar2_ap, kPar1_ap, kP3c_ap, kP3b_ap, kP3a_ap, kRg1_ap, kRg2b_ap, kRg2_ap, kSq_list, kSq_tuple, kEnum_ap, kZip2_ll, kZip1_ap, kLcE_ap, kLc_ap, kLt3_ap, kLt2_ap, kLt1_ap, kRun_nx, kRun_rt, vP_imm, vP_lst, vP_ft, wp_var, pP_imm, pP_lst, pP_ft, wp_peek, moP_ap, wp_move, lkP_imm, lkP_ft, wp_look, gsP_src, gsP_fT, gsP_ft, gsP_imm, wp_gSrc, gnP_imm, gnP_ft, gnP_lst, wp_gNm, gfP_dT, gfP_fT, wp_gFrz, kGt_dT, kGt_imm, kGt_ft, wp_gTmp, wp_C, wp_E, wp_I, wp_1, wp_2, wp_2s, wp_3, wp_oN, wp_oS, wp_T, wp_and, wp_or, wp_not, wp_yes, wp_mIf, wp_vAnd, wp_vOr, wp_vNot, wp_aNil, wp_aCons, wp_tup, wp_lst, wp_A, wp_tupRg, wp_lstRg, wp_gNil, wp_gCons, wp_call, wp_lc, wp_wSeq, wp_wEnum, wp_wZip, wp_wRange1, wp_wRange2, wp_sNx, wp_sBk, wp_sCt, wp_sRetN, wp_seq, wp_set, wp_drop, wp_sRet, wp_sIf, wp_asg, wp_tgName, wp_tgTup, wp_tgAll0, wp_tgAll1, wp_tgN1, wp_tgNs, wp_tgG, wp_tgS0, kTgS_ap, wp_tgS1, wp_sFor, wp_par, wp_par3, wp_run, kIx_ap, isLst_ap, wp_tgIx, kAp_ap, wp_append, kPo_ap, wp_popAt, d_add, d_addb, d_addT, d_addL, d_sub, d_mul, d_mulL, d_fdiv, d_mod, d_pow, d_neg, d_lt, d_le, d_gt, d_ge, d_eq, d_ne, d_eqT, d_neT, d_eqL, d_neL, d_eqT0, d_neT0, d_eqL0, d_neL0, d_eqS, d_neS, d_isN, d_isntN, d_lenT, d_lenL, d_abs, d_int, d_intb, d_tupT, d_tupL, tupP_ft, d_listT, d_listL, d_max, d_min, d_ixT, d_ixL, d_slT, d_slL, cut_to, cut_from, d_revL, d_revT, d_repr, wp_pk, wp_tup0, wp_wipe, wp_wipe0, wp_rest, wp_rest0, ix_zs, ap_zs, ap_z0, po_zs, at0_nat, at0_nat1, toN1, toN2, Int.toNat_natCast, rangeD_rng, rangeD_sub, d_sort, d_sortT, wp_dnewT, kDg2_ap, kDg1_ap, dkO_dT, dkO_fT, isSome_some, wp_dget2, kDp2_ap, kDp1_ap, wp_dput, kDE_lst, kDE_imm, kDE_ft, wp_dictE, List.getElem?_cons_zero, List.getElem?_cons_succ, List.set_cons_zero, List.set_cons_succ, List.length_cons, List.length_nil, List.length_map, List.map_cons, List.map_nil, List.replicate_succ, List.replicate_zero, List.nil_append, List.cons_append, Nat.reduceSub, Nat.reduceAdd, Nat.reduceLeDiff, Nat.reduceLT, Nat.zero_add, Nat.sub_self, decide_eq_true_eq, Bool.not_eq_true', decide_eq_false_iff_not, ite_true, ite_false, if_true, if_false, reduceIte, Bool.true_eq_false, Bool.false_eq_true, and_true, true_and, true_implies, not_true_eq_false, not_false_eq_true, Int.reduceLE, Int.reduceLT, gt_iff_lt, wp_indexT, itP_ft, itP_it, kIt_ap, kIr_ap, wp_disp2, kD1_ap, kD2_ap, kD3_ap, kD4_ap, kD5_ap, kD6_ap, wp_chain, kCn1_ap, kCn2_ap, kCnS_ap, kCn3_ap, kCn4_ap, d_sum, d_max1, d_min1, tsl hsf]
  refine wp_once hx hw (by omega) (by omega) (tupI _) (tupI _) _ fun ww3 sg hww3 hsg => ?_
  obtain rfl := hww.uniq hww3
  have hsg : TupS sg (zs (oc x ww)) := hsg
  have hg := oc_row hx lww.wd
  simp (disch := (first | omega | (simp only [List.length_set, List.length_map, List.length_append, List.length_take, List.length_drop, rng_len]; omega))) only [wp_ret, wp_bad, wp_ok, wp_if, kR_ap, slP_imm, slP_lst, slP_ft, kE_ap, kI_ap, k1_ap, k2b_ap, k2_ap, k2s_ap, k3c_ap, k3b_ap, k3_ap, kOI_ap, kT_ap, kAnd_ap, kOr_ap, kNot_ap, kVA_ap, kVO_ap, kVN_ap, kIf_ap, kC2_ap, kC1_ap, kTup_ap, kLst_ap, kA_ap, kG2_ap, kG1_ap, kCall_ap, kSeq_nx, kSeq_rt, kSeq_bk, kSeq_ct, kSet_ap, kDrop_ap, kRt_ap, kNxE_ap, kAsg_ap, kFor_ap, kTurn_nx, kTurn_ct, kTurn_bk, kTurn_rt, kBody_ap, kWh_ap, kPar2_ap, kPar1_ap, kP3c_ap, kP3b_ap, kP3a_ap, kRg1_ap, kRg2b_ap, kRg2_ap, kSq_list, kSq_tuple, kEnum_ap, kZip2_ll, kZip1_ap, kLcE_ap, kLc_ap, kLt3_ap, kLt2_ap, kLt1_ap, kRun_nx, kRun_rt, vP_imm, vP_lst, vP_ft, wp_var, pP_imm, pP_lst, pP_ft, wp_peek, moP_ap, wp_move, lkP_imm, lkP_ft, wp_look, gsP_src, gsP_fT, gsP_ft, gsP_imm, wp_gSrc, gnP_imm, gnP_ft, gnP_lst, wp_gNm, gfP_dT, gfP_fT, wp_gFrz, kGt_dT, kGt_imm, kGt_ft, wp_gTmp, wp_C, wp_E, wp_I, wp_1, wp_2, wp_2s, wp_3, wp_oN, wp_oS, wp_T, wp_and, wp_or, wp_not, wp_yes, wp_mIf, wp_vAnd, wp_vOr, wp_vNot, wp_aNil, wp_aCons, wp_tup, wp_lst, wp_A, wp_tupRg, wp_lstRg, wp_gNil, wp_gCons, wp_call, wp_lc, wp_wSeq, wp_wEnum, wp_wZip, wp_wRange1, wp_wRange2, wp_sNx, wp_sBk, wp_sCt, wp_sRetN, wp_seq, wp_set, wp_drop, wp_sRet, wp_sIf, wp_asg, wp_tgName, wp_tgTup, wp_tgAll0, wp_tgAll1, wp_tgN1, wp_tgNs, wp_tgG, wp_tgS0, kTgS_ap, wp_tgS1, wp_sFor, wp_par, wp_par3, wp_run, kIx_ap, isLst_ap, wp_tgIx, kAp_ap, wp_append, kPo_ap, wp_popAt, d_add, d_addb, d_addT, d_addL, d_sub, d_mul, d_mulL, d_fdiv, d_mod, d_pow, d_neg, d_lt, d_le, d_gt, d_ge, d_eq, d_ne, d_eqT, d_neT, d_eqL, d_neL, d_eqT0, d_neT0, d_eqL0, d_neL0, d_eqS, d_neS, d_isN, d_isntN, d_lenT, d_lenL, d_abs, d_int, d_intb, d_tupT, d_tupL, tupP_ft, d_listT, d_listL, d_max, d_min, d_ixT, d_ixL, d_slT, d_slL, cut_to, cut_from, d_revL, d_revT, d_repr, wp_pk, wp_tup0, wp_wipe, wp_wipe0, wp_rest, wp_rest0, ix_zs, ap_zs, ap_z0, po_zs, at0_nat, at0_nat1, toN1, toN2, Int.toNat_natCast, rangeD_rng, rangeD_sub, d_sort, d_sortT, wp_dnewT, kDg2_ap, kDg1_ap, dkO_dT, dkO_fT, isSome_some, wp_dget2, kDp2_ap, kDp1_ap, wp_dput, kDE_lst, kDE_imm, kDE_ft, wp_dictE, List.getElem?_cons_zero, List.getElem?_cons_succ, List.set_cons_zero, List.set_cons_succ, List.length_cons, List.length_nil, List.length_map, List.map_cons, List.map_nil, List.replicate_succ, List.replicate_zero, List.nil_append, List.cons_append, Nat.reduceSub, Nat.reduceAdd, Nat.reduceLeDiff, Nat.reduceLT, Nat.zero_add, Nat.sub_self, decide_eq_true_eq, Bool.not_eq_true', decide_eq_false_iff_not, ite_true, ite_false, if_true, if_false, reduceIte, Bool.true_eq_false, Bool.false_eq_true, and_true, true_and, true_implies, not_true_eq_false, not_false_eq_true, Int.reduceLE, Int.reduceLT, gt_iff_lt, wp_indexT, itP_ft, itP_it, kIt_ap, kIr_ap, wp_disp2, kD1_ap, kD2_ap, kD3_ap, kD4_ap, kD5_ap, kD6_ap, wp_chain, kCn1_ap, kCn2_ap, kCnS_ap, kCn3_ap, kCn4_ap, d_sum, d_max1, d_min1, tgt hsg]
  refine wp_less hu hg (by omega) (by omega) (tupI _) hsg _ fun wz sh hwz hsh => ?_
  have e2 : low (low u ww.reverse) wx.reverse = low u wz.reverse := by
    obtain ⟨rx, hrx⟩ := RWd.ex hx
    obtain ⟨ry, hry⟩ := RWd.ex hg
    rw [low_two lwx hrx he, low_two (hwz.lwd hg) hry hu]
    exact low_assoc (w := w) hu hrx lww.wd hry
  simp (disch := (first | omega | (simp only [List.length_set, List.length_map, List.length_append, List.length_take, List.length_drop, rng_len]; omega))) only [wp_ret, wp_bad, wp_ok, wp_if, kR_ap, slP_imm, slP_lst, slP_ft, kE_ap, kI_ap, k1_ap, k2b_ap, k2_ap, k2s_ap, k3c_ap, k3b_ap, k3_ap, kOI_ap, kT_ap, kAnd_ap, kOr_ap, kNot_ap, kVA_ap, kVO_ap, kVN_ap, kIf_ap, kC2_ap, kC1_ap, kTup_ap, kLst_ap, kA_ap, kG2_ap, kG1_ap, kCall_ap, kSeq_nx, kSeq_rt, kSeq_bk, kSeq_ct, kSet_ap, kDrop_ap, kRt_ap, kNxE_ap, kAsg_ap, kFor_ap, kTurn_nx, kTurn_ct, kTurn_bk, kTurn_rt, kBody_ap, kWh_ap, kPar2_ap, kPar1_ap, kP3c_ap, kP3b_ap, kP3a_ap, kRg1_ap, kRg2b_ap, kRg2_ap, kSq_list, kSq_tuple, kEnum_ap, kZip2_ll, kZip1_ap, kLcE_ap, kLc_ap, kLt3_ap, kLt2_ap, kLt1_ap, kRun_nx, kRun_rt, vP_imm, vP_lst, vP_ft, wp_var, pP_imm, pP_lst, pP_ft, wp_peek, moP_ap, wp_move, lkP_imm, lkP_ft, wp_look, gsP_src, gsP_fT, gsP_ft, gsP_imm, wp_gSrc, gnP_imm, gnP_ft, gnP_lst, wp_gNm, gfP_dT, gfP_fT, wp_gFrz, kGt_dT, kGt_imm, kGt_ft, wp_gTmp, wp_C, wp_E, wp_I, wp_1, wp_2, wp_2s, wp_3, wp_oN, wp_oS, wp_T, wp_and, wp_or, wp_not, wp_yes, wp_mIf, wp_vAnd, wp_vOr, wp_vNot, wp_aNil, wp_aCons, wp_tup, wp_lst, wp_A, wp_tupRg, wp_lstRg, wp_gNil, wp_gCons, wp_call, wp_lc, wp_wSeq, wp_wEnum, wp_wZip, wp_wRange1, wp_wRange2, wp_sNx, wp_sBk, wp_sCt, wp_sRetN, wp_seq, wp_set, wp_drop, wp_sRet, wp_sIf, wp_asg, wp_tgName, wp_tgTup, wp_tgAll0, wp_tgAll1, wp_tgN1, wp_tgNs, wp_tgG, wp_tgS0, kTgS_ap, wp_tgS1, wp_sFor, wp_par, wp_par3, wp_run, kIx_ap, isLst_ap, wp_tgIx, kAp_ap, wp_append, kPo_ap, wp_popAt, d_add, d_addb, d_addT, d_addL, d_sub, d_mul, d_mulL, d_fdiv, d_mod, d_pow, d_neg, d_lt, d_le, d_gt, d_ge, d_eq, d_ne, d_eqT, d_neT, d_eqL, d_neL, d_eqT0, d_neT0, d_eqL0, d_neL0, d_eqS, d_neS, d_isN, d_isntN, d_lenT, d_lenL, d_abs, d_int, d_intb, d_tupT, d_tupL, tupP_ft, d_listT, d_listL, d_max, d_min, d_ixT, d_ixL, d_slT, d_slL, cut_to, cut_from, d_revL, d_revT, d_repr, wp_pk, wp_tup0, wp_wipe, wp_wipe0, wp_rest, wp_rest0, ix_zs, ap_zs, ap_z0, po_zs, at0_nat, at0_nat1, toN1, toN2, Int.toNat_natCast, rangeD_rng, rangeD_sub, d_sort, d_sortT, wp_dnewT, kDg2_ap, kDg1_ap, dkO_dT, dkO_fT, isSome_some, wp_dget2, kDp2_ap, kDp1_ap, wp_dput, kDE_lst, kDE_imm, kDE_ft, wp_dictE, List.getElem?_cons_zero, List.getElem?_cons_succ, List.set_cons_zero, List.set_cons_succ, List.length_cons, List.length_nil, List.length_map, List.map_cons, List.map_nil, List.replicate_succ, List.replicate_zero, List.nil_append, List.cons_append, Nat.reduceSub, Nat.reduceAdd, Nat.reduceLeDiff, Nat.reduceLT, Nat.zero_add, Nat.sub_self, decide_eq_true_eq, Bool.not_eq_true', decide_eq_false_iff_not, ite_true, ite_false, if_true, if_false, reduceIte, Bool.true_eq_false, Bool.false_eq_true, and_true, true_and, true_implies, not_true_eq_false, not_false_eq_true, Int.reduceLE, Int.reduceLT, gt_iff_lt, wp_indexT, itP_ft, itP_it, kIt_ap, kIr_ap, wp_disp2, kD1_ap, kD2_ap, kD3_ap, kD4_ap, kD5_ap, kD6_ap, wp_chain, kCn1_ap, kCn2_ap, kCnS_ap, kCn3_ap, kCn4_ap, d_sum, d_max1, d_min1, tsl hsh]
  rw [e2]
  nofun
  exact hR
theorem part5 (cs : List Int) (n : Nat) (u w ww : List Int) (s9 : Sl) (h1 : 1 ≤ n) (h4 : n ≤ 4) (hu : IsRow n u) (hw : IsRow n w) (hww : LeW n ww w) (hs9 : TupS s9 (zs (oc u ww))) (REST : MS) (e2 e3 e4 e5 e6 e7 e8 e9 e10 e11 e12 e13 e14 e15 e16 : Option Sl) (K : Fl × Ev → Prop)
    (hR : ∀ e14, WP (REST [some (.scr cs), some .src, e2, e3, some (.imm (zT u)), some (.imm (zT w)), e6, e7, e8, some s9, e10, e11, e12, e13, e14, e15, e16]) K) : WP ((sSeq (sSet 14 (m2 eqD (mI (mCall 1 w__law_length (gTmp (mCall 2 w__law_behind (gNm 4 (gNm 5 gNil'))) gNil'))) (mI (m2 addD (mI (mCall 1 w__law_length (gNm 4 gNil'))) (mI (mCall 1 w__law_length (gNm 5 gNil')))))))
    (sSeq (sIf (tOr (mT (mI (m2 neD (mI (m2 eqD (mPeek 9) (mI (mCall 2 w__law_behind (gNm 4 (gNm 5 gNil')))))) (mPeek 14)))) (mT (mI (m2 ltD (mI (mCall 1 w__law_length (gNm 9 gNil'))) (mI (mA maxD (aCons (mI (mCall 1 w__law_length (gNm 4 gNil'))) (aCons (mI (mCall 1 w__law_length (gNm 5 gNil'))) aNil)))))))) (sRet (mE (mC (.bool false)))) sNx)
    REST)) [some (.scr cs), some .src, e2, e3, some (.imm (zT u)), some (.imm (zT w)), e6, e7, e8, some s9, e10, e11, e12, e13, e14, e15, e16]) K := by
  have lww := hww.lwd hw
  have hoc := oc_row hu lww.wd
  obtain ⟨rw_, hrw⟩ := RWd.ex hw
  have eo := oc_two lww.for hrw.for hu
  have hb := bh_row hu hw
  have pl := plain_len hu hrw
  rw [← eo] at pl
  have lo := long_oc hu hrw
  rw [← eo] at lo
  nofun
  refine wp_behind hu hw (by omega) (by omega) (tupI _) (tupI _) _ ?_
  nofun
  refine wp_length hb (by omega) (by omega) (tupF _) _ ?_
  nofun
  refine wp_length hu (by omega) (by omega) (tupI _) _ ?_
  nofun
  refine wp_length hw (by omega) (by omega) (tupI _) _ ?_
  simp (disch := (first | omega | (simp only [List.length_set, List.length_map, List.length_append, List.length_take, List.length_drop, rng_len]; omega))) only [wp_ret, wp_bad, wp_ok, wp_if, kR_ap, slP_imm, slP_lst, slP_ft, kE_ap, kI_ap, k1_ap, k2b_ap, k2_ap, k2s_ap, k3c_ap, k3b_ap, k3_ap, kOI_ap, kT_ap, kAnd_ap, kOr_ap, kNot_ap, kVA_ap, kVO_ap, kVN_ap, kIf_ap, kC2_ap, kC1_ap, kTup_ap, kLst_ap, kA_ap, kG2_ap, kG1_ap, kCall_ap, kSeq_nx, kSeq_rt, kSeq_bk, kSeq_ct, kSet_ap, kDrop_ap, kRt_ap, kNxE_ap, kAsg_ap, kFor_ap, kTurn_nx, kTurn_ct, kTurn_bk, kTurn_rt, kBody_ap, kWh_ap, kPar2_ap, kPar1_ap, kP3c_ap, kP3b_ap, kP3a_ap, kRg1_ap, kRg2b_ap, kRg2_ap, kSq_list, kSq_tuple, kEnum_ap, kZip2_ll, kZip1_ap, kLcE_ap, kLc_ap, kLt3_ap, kLt2_ap, kLt1_ap, kRun_nx, kRun_rt, vP_imm, vP_lst, vP_ft, wp_var, pP_imm, pP_lst, pP_ft, wp_peek, moP_ap, wp_move, lkP_imm, lkP_ft, wp_look, gsP_src, gsP_fT, gsP_ft, gsP_imm, wp_gSrc, gnP_imm, gnP_ft, gnP_lst, wp_gNm, gfP_dT, gfP_fT, wp_gFrz, kGt_dT, kGt_imm, kGt_ft, wp_gTmp, wp_C, wp_E, wp_I, wp_1, wp_2, wp_2s, wp_3, wp_oN, wp_oS, wp_T, wp_and, wp_or, wp_not, wp_yes, wp_mIf, wp_vAnd, wp_vOr, wp_vNot, wp_aNil, wp_aCons, wp_tup, wp_lst, wp_A, wp_tupRg, wp_lstRg, wp_gNil, wp_gCons, wp_call, wp_lc, wp_wSeq, wp_wEnum, wp_wZip, wp_wRange1, wp_wRange2, wp_sNx, wp_sBk, wp_sCt, wp_sRetN, wp_seq, wp_set, wp_drop, wp_sRet, wp_sIf, wp_asg, wp_tgName, wp_tgTup, wp_tgAll0, wp_tgAll1, wp_tgN1, wp_tgNs, wp_tgG, wp_tgS0, kTgS_ap, wp_tgS1, wp_sFor, wp_par, wp_par3, wp_run, kIx_ap, isLst_ap, wp_tgIx, kAp_ap, wp_append, kPo_ap, wp_popAt, d_add, d_addb, d_addT, d_addL, d_sub, d_mul, d_mulL, d_fdiv, d_mod, d_pow, d_neg, d_lt, d_le, d_gt, d_ge, d_eq, d_ne, d_eqT, d_neT, d_eqL, d_neL, d_eqT0, d_neT0, d_eqL0, d_neL0, d_eqS, d_neS, d_isN, d_isntN, d_lenT, d_lenL, d_abs, d_int, d_intb, d_tupT, d_tupL, tupP_ft, d_listT, d_listL, d_max, d_min, d_ixT, d_ixL, d_slT, d_slL, cut_to, cut_from, d_revL, d_revT, d_repr, wp_pk, wp_tup0, wp_wipe, wp_wipe0, wp_rest, wp_rest0, ix_zs, ap_zs, ap_z0, po_zs, at0_nat, at0_nat1, toN1, toN2, Int.toNat_natCast, rangeD_rng, rangeD_sub, d_sort, d_sortT, wp_dnewT, kDg2_ap, kDg1_ap, dkO_dT, dkO_fT, isSome_some, wp_dget2, kDp2_ap, kDp1_ap, wp_dput, kDE_lst, kDE_imm, kDE_ft, wp_dictE, List.getElem?_cons_zero, List.getElem?_cons_succ, List.set_cons_zero, List.set_cons_succ, List.length_cons, List.length_nil, List.length_map, List.map_cons, List.map_nil, List.replicate_succ, List.replicate_zero, List.nil_append, List.cons_append, Nat.reduceSub, Nat.reduceAdd, Nat.reduceLeDiff, Nat.reduceLT, Nat.zero_add, Nat.sub_self, decide_eq_true_eq, Bool.not_eq_true', decide_eq_false_iff_not, ite_true, ite_false, if_true, if_false, reduceIte, Bool.true_eq_false, Bool.false_eq_true, and_true, true_and, true_implies, not_true_eq_false, not_false_eq_true, Int.reduceLE, Int.reduceLT, gt_iff_lt, wp_indexT, itP_ft, itP_it, kIt_ap, kIr_ap, wp_disp2, kD1_ap, kD2_ap, kD3_ap, kD4_ap, kD5_ap, kD6_ap, wp_chain, kCn1_ap, kCn2_ap, kCnS_ap, kCn3_ap, kCn4_ap, d_sum, d_max1, d_min1, tp hs9]
  refine wp_behind hu hw (by omega) (by omega) (tupI _) (tupI _) _ ?_
  nofun
  rw [d_neB]
  have e1 : decide (oc u ww = bh u w) = decide ((inv (bh u w) : Int) = (inv u : Int) + (inv w : Int)) := by
    by_cases c : oc u ww = bh u w
    · rw [decide_eq_true c, decide_eq_true (by have := pl.mp c; omega)]
    · rw [decide_eq_false c, decide_eq_false (fun z => c (pl.mpr (by omega)))]
  rw [e1, decide_eq_true rfl, Bool.not_true]
  simp (disch := (first | omega | (simp only [List.length_set, List.length_map, List.length_append, List.length_take, List.length_drop, rng_len]; omega))) only [wp_ret, wp_bad, wp_ok, wp_if, kR_ap, slP_imm, slP_lst, slP_ft, kE_ap, kI_ap, k1_ap, k2b_ap, k2_ap, k2s_ap, k3c_ap, k3b_ap, k3_ap, kOI_ap, kT_ap, kAnd_ap, kOr_ap, kNot_ap, kVA_ap, kVO_ap, kVN_ap, kIf_ap, kC2_ap, kC1_ap, kTup_ap, kLst_ap, kA_ap, kG2_ap, kG1_ap, kCall_ap, kSeq_nx, kSeq_rt, kSeq_bk, kSeq_ct, kSet_ap, kDrop_ap, kRt_ap, kNxE_ap, kAsg_ap, kFor_ap, kTurn_nx, kTurn_ct, kTurn_bk, kTurn_rt, kBody_ap, kWh_ap, kPar2_ap, kPar1_ap, kP3c_ap, kP3b_ap, kP3a_ap, kRg1_ap, kRg2b_ap, kRg2_ap, kSq_list, kSq_tuple, kEnum_ap, kZip2_ll, kZip1_ap, kLcE_ap, kLc_ap, kLt3_ap, kLt2_ap, kLt1_ap, kRun_nx, kRun_rt, vP_imm, vP_lst, vP_ft, wp_var, pP_imm, pP_lst, pP_ft, wp_peek, moP_ap, wp_move, lkP_imm, lkP_ft, wp_look, gsP_src, gsP_fT, gsP_ft, gsP_imm, wp_gSrc, gnP_imm, gnP_ft, gnP_lst, wp_gNm, gfP_dT, gfP_fT, wp_gFrz, kGt_dT, kGt_imm, kGt_ft, wp_gTmp, wp_C, wp_E, wp_I, wp_1, wp_2, wp_2s, wp_3, wp_oN, wp_oS, wp_T, wp_and, wp_or, wp_not, wp_yes, wp_mIf, wp_vAnd, wp_vOr, wp_vNot, wp_aNil, wp_aCons, wp_tup, wp_lst, wp_A, wp_tupRg, wp_lstRg, wp_gNil, wp_gCons, wp_call, wp_lc, wp_wSeq, wp_wEnum, wp_wZip, wp_wRange1, wp_wRange2, wp_sNx, wp_sBk, wp_sCt, wp_sRetN, wp_seq, wp_set, wp_drop, wp_sRet, wp_sIf, wp_asg, wp_tgName, wp_tgTup, wp_tgAll0, wp_tgAll1, wp_tgN1, wp_tgNs, wp_tgG, wp_tgS0, kTgS_ap, wp_tgS1, wp_sFor, wp_par, wp_par3, wp_run, kIx_ap, isLst_ap, wp_tgIx, kAp_ap, wp_append, kPo_ap, wp_popAt, d_add, d_addb, d_addT, d_addL, d_sub, d_mul, d_mulL, d_fdiv, d_mod, d_pow, d_neg, d_lt, d_le, d_gt, d_ge, d_eq, d_ne, d_eqT, d_neT, d_eqL, d_neL, d_eqT0, d_neT0, d_eqL0, d_neL0, d_eqS, d_neS, d_isN, d_isntN, d_lenT, d_lenL, d_abs, d_int, d_intb, d_tupT, d_tupL, tupP_ft, d_listT, d_listL, d_max, d_min, d_ixT, d_ixL, d_slT, d_slL, cut_to, cut_from, d_revL, d_revT, d_repr, wp_pk, wp_tup0, wp_wipe, wp_wipe0, wp_rest, wp_rest0, ix_zs, ap_zs, ap_z0, po_zs, at0_nat, at0_nat1, toN1, toN2, Int.toNat_natCast, rangeD_rng, rangeD_sub, d_sort, d_sortT, wp_dnewT, kDg2_ap, kDg1_ap, dkO_dT, dkO_fT, isSome_some, wp_dget2, kDp2_ap, kDp1_ap, wp_dput, kDE_lst, kDE_imm, kDE_ft, wp_dictE, List.getElem?_cons_zero, List.getElem?_cons_succ, List.set_cons_zero, List.set_cons_succ, List.length_cons, List.length_nil, List.length_map, List.map_cons, List.map_nil, List.replicate_succ, List.replicate_zero, List.nil_append, List.cons_append, Nat.reduceSub, Nat.reduceAdd, Nat.reduceLeDiff, Nat.reduceLT, Nat.zero_add, Nat.sub_self, decide_eq_true_eq, Bool.not_eq_true', decide_eq_false_iff_not, ite_true, ite_false, if_true, if_false, reduceIte, Bool.true_eq_false, Bool.false_eq_true, and_true, true_and, true_implies, not_true_eq_false, not_false_eq_true, Int.reduceLE, Int.reduceLT, gt_iff_lt, wp_indexT, itP_ft, itP_it, kIt_ap, kIr_ap, wp_disp2, kD1_ap, kD2_ap, kD3_ap, kD4_ap, kD5_ap, kD6_ap, wp_chain, kCn1_ap, kCn2_ap, kCnS_ap, kCn3_ap, kCn4_ap, d_sum, d_max1, d_min1, tgn hs9]
  refine wp_length hoc (by omega) (by omega) hs9 _ ?_
  nofun
  refine wp_length hu (by omega) (by omega) (tupI _) _ ?_
  nofun
  refine wp_length hw (by omega) (by omega) (tupI _) _ ?_
  nofun
  rw [if_neg (by split <;> omega)]
  exact hR _
theorem part6 (cs : List Int) (e2 e3 e4 e5 e6 e7 e8 e9 e10 e11 e12 e13 e14 e15 e16 : Option Sl) (K : Fl × Ev → Prop)
    (hR : ∀ e2 e3 e4 e5 e6 e7 e8 e9 e10 e11 e12 e13 e14 e15 e16, K (.nx, [some (.scr cs), some .src, e2, e3, e4, e5, e6, e7, e8, e9, e10, e11, e12, e13, e14, e15, e16])) : WP ((sFor (wRange1 (mC (.int 4))) (tgName 15) (sSeq (sSet 3 (m2 addD (mC (.int 1)) (mI (mCall 2 w__law_pick (gSrc 1 (gCons' (mC (.int 12)) gNil'))))))
    (sSeq (sAsg (mTup (aCons (mI (mCall 2 w__law_row (gSrc 1 (gNm 3 gNil')))) (aCons (mI (mCall 2 w__law_row (gSrc 1 (gNm 3 gNil')))) (aCons (mI (mCall 2 w__law_row (gSrc 1 (gNm 3 gNil')))) aNil)))) (tgTup [4, 5, 16]))
    (sSeq (sSet 16 (mIf (mT (mI (m2 eqD (mI (mCall 2 w__law_pick (gSrc 1 (gCons' (mC (.int 2)) gNil')))) (mC (.int 0))))) (mE (mVar 16)) (mCall 2 w_less (gTmp (mCall 2 w_once (gNm 4 (gNm 5 gNil'))) (gTmp (mCall 3 w__law_raised (gSrc 1 (gTmp (mTupRg (wRange1 (mVar 3))) (gCons' (mC (.int 2)) gNil')))) gNil')))))
    (sIf (mT (mI (m2 neD (mI (mCall 2 w__law_is_below (gNm 16 (gTmp (mCall 2 w_once (gNm 4 (gNm 5 gNil'))) gNil')))) (mI (mCall 2 w__law_is_below (gTmp (mCall 2 w_less (gNm 16 (gNm 5 gNil'))) (gNm 4 gNil'))))))) (sRet (mE (mC (.bool false)))) sNx))))) [some (.scr cs), some .src, e2, e3, e4, e5, e6, e7, e8, e9, e10, e11, e12, e13, e14, e15, e16]) K := by
  nofun
  rw [show rangeD 0 4 = (rng 4).map PyData.int from rangeD_rng 4]
  refine for_inv PyData.int (fun _ env => ∃ e2 e3 e4 e5 e6 e7 e8 e9 e10 e11 e12 e13 e14 e15 e16, env = [some (.scr cs), some .src, e2, e3, e4, e5, e6, e7, e8, e9, e10, e11, e12, e13, e14, e15, e16]) (rng 4) [] _ ⟨_, _, _, _, _, _, _, _, _, _, _, _, _, _, _, rfl⟩ ?_ ?_
  · rintro d x0 rest env e ⟨e2, e3, e4, e5, e6, e7, e8, e9, e10, e11, e12, e13, e14, e15, e16, rfl⟩
    nofun
    intro i h0 h1
    obtain ⟨m, rfl⟩ : ∃ j : Nat, i = (j : Int) := ⟨i.toNat, by omega⟩
    have en2 : (1 : Int) + (m : Int) = ((m + 1 : Nat) : Int) := by omega
    rw [en2]
    refine wp_row (by omega) (by omega) _ fun u hu => ?_
    nofun
    refine wp_row (by omega) (by omega) _ fun w hw => ?_
    nofun
    refine wp_row (by omega) (by omega) _ fun v hv => ?_
    nofun
    have key : ∀ (v : List Int) (s16 : Sl), IsRow (m + 1) v → TupS s16 (zs v) → ∀ (e2 e3 e4 e5 e6 e7 e8 e9 e10 e11 e12 e13 e14 e15 e16 : Option Sl), WP ((sIf (mT (mI (m2 neD (mI (mCall 2 w__law_is_below (gNm 16 (gTmp (mCall 2 w_once (gNm 4 (gNm 5 gNil'))) gNil')))) (mI (mCall 2 w__law_is_below (gTmp (mCall 2 w_less (gNm 16 (gNm 5 gNil'))) (gNm 4 gNil'))))))) (sRet (mE (mC (.bool false)))) sNx) [some (.scr cs), some .src, e2, e3, some (.imm (zT u)), some (.imm (zT w)), e6, e7, e8, e9, e10, e11, e12, e13, e14, e15, some s16]) (kTurn (fun env => ∃ e2 e3 e4 e5 e6 e7 e8 e9 e10 e11 e12 e13 e14 e15 e16, env = [some (.scr cs), some .src, e2, e3, e4, e5, e6, e7, e8, e9, e10, e11, e12, e13, e14, e15, e16]) K) := by
      intro v s16 hv hs16 e2 e3 e4 e5 e6 e7 e8 e9 e10 e11 e12 e13 e14 e15 e16
      simp (disch := (first | omega | (simp only [List.length_set, List.length_map, List.length_append, List.length_take, List.length_drop, rng_len]; omega))) only [wp_ret, wp_bad, wp_ok, wp_if, kR_ap, slP_imm, slP_lst, slP_ft, kE_ap, kI_ap, k1_ap, k2b_ap, k2_ap, k2s_ap, k3c_ap, k3b_ap, k3_ap, kOI_ap, kT_ap, kAnd_ap, kOr_ap, kNot_ap, kVA_ap, kVO_ap, kVN_ap, kIf_ap, kC2_ap, kC1_ap, kTup_ap, kLst_ap, kA_ap, kG2_ap, kG1_ap, kCall_ap, kSeq_nx, kSeq_rt, kSeq_bk, kSeq_ct, kSet_ap, kDrop_ap, kRt_ap, kNxE_ap, kAsg_ap, kFor_ap, kTurn_nx, kTurn_ct, kTurn_bk, kTurn_rt, kBody_ap, kWh_ap, kPar2_ap, kPar1_ap, kP3c_ap, kP3b_ap, kP3a_ap, kRg1_ap, kRg2b_ap, kRg2_ap, kSq_list, kSq_tuple, kEnum_ap, kZip2_ll, kZip1_ap, kLcE_ap, kLc_ap, kLt3_ap, kLt2_ap, kLt1_ap, kRun_nx, kRun_rt, vP_imm, vP_lst, vP_ft, wp_var, pP_imm, pP_lst, pP_ft, wp_peek, moP_ap, wp_move, lkP_imm, lkP_ft, wp_look, gsP_src, gsP_fT, gsP_ft, gsP_imm, wp_gSrc, gnP_imm, gnP_ft, gnP_lst, wp_gNm, gfP_dT, gfP_fT, wp_gFrz, kGt_dT, kGt_imm, kGt_ft, wp_gTmp, wp_C, wp_E, wp_I, wp_1, wp_2, wp_2s, wp_3, wp_oN, wp_oS, wp_T, wp_and, wp_or, wp_not, wp_yes, wp_mIf, wp_vAnd, wp_vOr, wp_vNot, wp_aNil, wp_aCons, wp_tup, wp_lst, wp_A, wp_tupRg, wp_lstRg, wp_gNil, wp_gCons, wp_call, wp_lc, wp_wSeq, wp_wEnum, wp_wZip, wp_wRange1, wp_wRange2, wp_sNx, wp_sBk, wp_sCt, wp_sRetN, wp_seq, wp_set, wp_drop, wp_sRet, wp_sIf, wp_asg, wp_tgName, wp_tgTup, wp_tgAll0, wp_tgAll1, wp_tgN1, wp_tgNs, wp_tgG, wp_tgS0, kTgS_ap, wp_tgS1, wp_sFor, wp_par, wp_par3, wp_run, kIx_ap, isLst_ap, wp_tgIx, kAp_ap, wp_append, kPo_ap, wp_popAt, d_add, d_addb, d_addT, d_addL, d_sub, d_mul, d_mulL, d_fdiv, d_mod, d_pow, d_neg, d_lt, d_le, d_gt, d_ge, d_eq, d_ne, d_eqT, d_neT, d_eqL, d_neL, d_eqT0, d_neT0, d_eqL0, d_neL0, d_eqS, d_neS, d_isN, d_isntN, d_lenT, d_lenL, d_abs, d_int, d_intb, d_tupT, d_tupL, tupP_ft, d_listT, d_listL, d_max, d_min, d_ixT, d_ixL, d_slT, d_slL, cut_to, cut_from, d_revL, d_revT, d_repr, wp_pk, wp_tup0, wp_wipe, wp_wipe0, wp_rest, wp_rest0, ix_zs, ap_zs, ap_z0, po_zs, at0_nat, at0_nat1, toN1, toN2, Int.toNat_natCast, rangeD_rng, rangeD_sub, d_sort, d_sortT, wp_dnewT, kDg2_ap, kDg1_ap, dkO_dT, dkO_fT, isSome_some, wp_dget2, kDp2_ap, kDp1_ap, wp_dput, kDE_lst, kDE_imm, kDE_ft, wp_dictE, List.getElem?_cons_zero, List.getElem?_cons_succ, List.set_cons_zero, List.set_cons_succ, List.length_cons, List.length_nil, List.length_map, List.map_cons, List.map_nil, List.replicate_succ, List.replicate_zero, List.nil_append, List.cons_append, Nat.reduceSub, Nat.reduceAdd, Nat.reduceLeDiff, Nat.reduceLT, Nat.zero_add, Nat.sub_self, decide_eq_true_eq, Bool.not_eq_true', decide_eq_false_iff_not, ite_true, ite_false, if_true, if_false, reduceIte, Bool.true_eq_false, Bool.false_eq_true, and_true, true_and, true_implies, not_true_eq_false, not_false_eq_true, Int.reduceLE, Int.reduceLT, gt_iff_lt, wp_indexT, itP_ft, itP_it, kIt_ap, kIr_ap, wp_disp2, kD1_ap, kD2_ap, kD3_ap, kD4_ap, kD5_ap, kD6_ap, wp_chain, kCn1_ap, kCn2_ap, kCnS_ap, kCn3_ap, kCn4_ap, d_sum, d_max1, d_min1, tgn hs16]
      refine wp_once hu hw (by omega) (by omega) (tupI _) (tupI _) _ fun ww sa hww hsa => ?_
      have lww := hww.lwd hw
      have hsa : TupS sa (zs (oc u ww)) := hsa
      have ha := oc_row hu lww.wd
      have iff := bel_oc ww u hu hv lww.wd
      simp (disch := (first | omega | (simp only [List.length_set, List.length_map, List.length_append, List.length_take, List.length_drop, rng_len]; omega))) only [wp_ret, wp_bad, wp_ok, wp_if, kR_ap, slP_imm, slP_lst, slP_ft, kE_ap, kI_ap, k1_ap, k2b_ap, k2_ap, k2s_ap, k3c_ap, k3b_ap, k3_ap, kOI_ap, kT_ap, kAnd_ap, kOr_ap, kNot_ap, kVA_ap, kVO_ap, kVN_ap, kIf_ap, kC2_ap, kC1_ap, kTup_ap, kLst_ap, kA_ap, kG2_ap, kG1_ap, kCall_ap, kSeq_nx, kSeq_rt, kSeq_bk, kSeq_ct, kSet_ap, kDrop_ap, kRt_ap, kNxE_ap, kAsg_ap, kFor_ap, kTurn_nx, kTurn_ct, kTurn_bk, kTurn_rt, kBody_ap, kWh_ap, kPar2_ap, kPar1_ap, kP3c_ap, kP3b_ap, kP3a_ap, kRg1_ap, kRg2b_ap, kRg2_ap, kSq_list, kSq_tuple, kEnum_ap, kZip2_ll, kZip1_ap, kLcE_ap, kLc_ap, kLt3_ap, kLt2_ap, kLt1_ap, kRun_nx, kRun_rt, vP_imm, vP_lst, vP_ft, wp_var, pP_imm, pP_lst, pP_ft, wp_peek, moP_ap, wp_move, lkP_imm, lkP_ft, wp_look, gsP_src, gsP_fT, gsP_ft, gsP_imm, wp_gSrc, gnP_imm, gnP_ft, gnP_lst, wp_gNm, gfP_dT, gfP_fT, wp_gFrz, kGt_dT, kGt_imm, kGt_ft, wp_gTmp, wp_C, wp_E, wp_I, wp_1, wp_2, wp_2s, wp_3, wp_oN, wp_oS, wp_T, wp_and, wp_or, wp_not, wp_yes, wp_mIf, wp_vAnd, wp_vOr, wp_vNot, wp_aNil, wp_aCons, wp_tup, wp_lst, wp_A, wp_tupRg, wp_lstRg, wp_gNil, wp_gCons, wp_call, wp_lc, wp_wSeq, wp_wEnum, wp_wZip, wp_wRange1, wp_wRange2, wp_sNx, wp_sBk, wp_sCt, wp_sRetN, wp_seq, wp_set, wp_drop, wp_sRet, wp_sIf, wp_asg, wp_tgName, wp_tgTup, wp_tgAll0, wp_tgAll1, wp_tgN1, wp_tgNs, wp_tgG, wp_tgS0, kTgS_ap, wp_tgS1, wp_sFor, wp_par, wp_par3, wp_run, kIx_ap, isLst_ap, wp_tgIx, kAp_ap, wp_append, kPo_ap, wp_popAt, d_add, d_addb, d_addT, d_addL, d_sub, d_mul, d_mulL, d_fdiv, d_mod, d_pow, d_neg, d_lt, d_le, d_gt, d_ge, d_eq, d_ne, d_eqT, d_neT, d_eqL, d_neL, d_eqT0, d_neT0, d_eqL0, d_neL0, d_eqS, d_neS, d_isN, d_isntN, d_lenT, d_lenL, d_abs, d_int, d_intb, d_tupT, d_tupL, tupP_ft, d_listT, d_listL, d_max, d_min, d_ixT, d_ixL, d_slT, d_slL, cut_to, cut_from, d_revL, d_revT, d_repr, wp_pk, wp_tup0, wp_wipe, wp_wipe0, wp_rest, wp_rest0, ix_zs, ap_zs, ap_z0, po_zs, at0_nat, at0_nat1, toN1, toN2, Int.toNat_natCast, rangeD_rng, rangeD_sub, d_sort, d_sortT, wp_dnewT, kDg2_ap, kDg1_ap, dkO_dT, dkO_fT, isSome_some, wp_dget2, kDp2_ap, kDp1_ap, wp_dput, kDE_lst, kDE_imm, kDE_ft, wp_dictE, List.getElem?_cons_zero, List.getElem?_cons_succ, List.set_cons_zero, List.set_cons_succ, List.length_cons, List.length_nil, List.length_map, List.map_cons, List.map_nil, List.replicate_succ, List.replicate_zero, List.nil_append, List.cons_append, Nat.reduceSub, Nat.reduceAdd, Nat.reduceLeDiff, Nat.reduceLT, Nat.zero_add, Nat.sub_self, decide_eq_true_eq, Bool.not_eq_true', decide_eq_false_iff_not, ite_true, ite_false, if_true, if_false, reduceIte, Bool.true_eq_false, Bool.false_eq_true, and_true, true_and, true_implies, not_true_eq_false, not_false_eq_true, Int.reduceLE, Int.reduceLT, gt_iff_lt, wp_indexT, itP_ft, itP_it, kIt_ap, kIr_ap, wp_disp2, kD1_ap, kD2_ap, kD3_ap, kD4_ap, kD5_ap, kD6_ap, wp_chain, kCn1_ap, kCn2_ap, kCnS_ap, kCn3_ap, kCn4_ap, d_sum, d_max1, d_min1, tgt hsa]
      have fin : ∀ b : Bool, (Bel v (oc u ww) ↔ b = true) → True := fun _ _ => trivial
      refine wp_below2 hv ha (by omega) (by omega) hs16 hsa _ (fun hb => ?_) (fun hb => ?_)
      · simp (disch := (first | omega | (simp only [List.length_set, List.length_map, List.length_append, List.length_take, List.length_drop, rng_len]; omega))) only [wp_ret, wp_bad, wp_ok, wp_if, kR_ap, slP_imm, slP_lst, slP_ft, kE_ap, kI_ap, k1_ap, k2b_ap, k2_ap, k2s_ap, k3c_ap, k3b_ap, k3_ap, kOI_ap, kT_ap, kAnd_ap, kOr_ap, kNot_ap, kVA_ap, kVO_ap, kVN_ap, kIf_ap, kC2_ap, kC1_ap, kTup_ap, kLst_ap, kA_ap, kG2_ap, kG1_ap, kCall_ap, kSeq_nx, kSeq_rt, kSeq_bk, kSeq_ct, kSet_ap, kDrop_ap, kRt_ap, kNxE_ap, kAsg_ap, kFor_ap, kTurn_nx, kTurn_ct, kTurn_bk, kTurn_rt, kBody_ap, kWh_ap, kPar2_ap, kPar1_ap, kP3c_ap, kP3b_ap, kP3a_ap, kRg1_ap, kRg2b_ap, kRg2_ap, kSq_list, kSq_tuple, kEnum_ap, kZip2_ll, kZip1_ap, kLcE_ap, kLc_ap, kLt3_ap, kLt2_ap, kLt1_ap, kRun_nx, kRun_rt, vP_imm, vP_lst, vP_ft, wp_var, pP_imm, pP_lst, pP_ft, wp_peek, moP_ap, wp_move, lkP_imm, lkP_ft, wp_look, gsP_src, gsP_fT, gsP_ft, gsP_imm, wp_gSrc, gnP_imm, gnP_ft, gnP_lst, wp_gNm, gfP_dT, gfP_fT, wp_gFrz, kGt_dT, kGt_imm, kGt_ft, wp_gTmp, wp_C, wp_E, wp_I, wp_1, wp_2, wp_2s, wp_3, wp_oN, wp_oS, wp_T, wp_and, wp_or, wp_not, wp_yes, wp_mIf, wp_vAnd, wp_vOr, wp_vNot, wp_aNil, wp_aCons, wp_tup, wp_lst, wp_A, wp_tupRg, wp_lstRg, wp_gNil, wp_gCons, wp_call, wp_lc, wp_wSeq, wp_wEnum, wp_wZip, wp_wRange1, wp_wRange2, wp_sNx, wp_sBk, wp_sCt, wp_sRetN, wp_seq, wp_set, wp_drop, wp_sRet, wp_sIf, wp_asg, wp_tgName, wp_tgTup, wp_tgAll0, wp_tgAll1, wp_tgN1, wp_tgNs, wp_tgG, wp_tgS0, kTgS_ap, wp_tgS1, wp_sFor, wp_par, wp_par3, wp_run, kIx_ap, isLst_ap, wp_tgIx, kAp_ap, wp_append, kPo_ap, wp_popAt, d_add, d_addb, d_addT, d_addL, d_sub, d_mul, d_mulL, d_fdiv, d_mod, d_pow, d_neg, d_lt, d_le, d_gt, d_ge, d_eq, d_ne, d_eqT, d_neT, d_eqL, d_neL, d_eqT0, d_neT0, d_eqL0, d_neL0, d_eqS, d_neS, d_isN, d_isntN, d_lenT, d_lenL, d_abs, d_int, d_intb, d_tupT, d_tupL, tupP_ft, d_listT, d_listL, d_max, d_min, d_ixT, d_ixL, d_slT, d_slL, cut_to, cut_from, d_revL, d_revT, d_repr, wp_pk, wp_tup0, wp_wipe, wp_wipe0, wp_rest, wp_rest0, ix_zs, ap_zs, ap_z0, po_zs, at0_nat, at0_nat1, toN1, toN2, Int.toNat_natCast, rangeD_rng, rangeD_sub, d_sort, d_sortT, wp_dnewT, kDg2_ap, kDg1_ap, dkO_dT, dkO_fT, isSome_some, wp_dget2, kDp2_ap, kDp1_ap, wp_dput, kDE_lst, kDE_imm, kDE_ft, wp_dictE, List.getElem?_cons_zero, List.getElem?_cons_succ, List.set_cons_zero, List.set_cons_succ, List.length_cons, List.length_nil, List.length_map, List.map_cons, List.map_nil, List.replicate_succ, List.replicate_zero, List.nil_append, List.cons_append, Nat.reduceSub, Nat.reduceAdd, Nat.reduceLeDiff, Nat.reduceLT, Nat.zero_add, Nat.sub_self, decide_eq_true_eq, Bool.not_eq_true', decide_eq_false_iff_not, ite_true, ite_false, if_true, if_false, reduceIte, Bool.true_eq_false, Bool.false_eq_true, and_true, true_and, true_implies, not_true_eq_false, not_false_eq_true, Int.reduceLE, Int.reduceLT, gt_iff_lt, wp_indexT, itP_ft, itP_it, kIt_ap, kIr_ap, wp_disp2, kD1_ap, kD2_ap, kD3_ap, kD4_ap, kD5_ap, kD6_ap, wp_chain, kCn1_ap, kCn2_ap, kCnS_ap, kCn3_ap, kCn4_ap, d_sum, d_max1, d_min1, tgn hs16]
        refine wp_less hv hw (by omega) (by omega) hs16 (tupI _) _ fun w2 sb hw2 hsb => ?_
        obtain rfl := hww.uniq hw2
        simp (disch := (first | omega | (simp only [List.length_set, List.length_map, List.length_append, List.length_take, List.length_drop, rng_len]; omega))) only [wp_ret, wp_bad, wp_ok, wp_if, kR_ap, slP_imm, slP_lst, slP_ft, kE_ap, kI_ap, k1_ap, k2b_ap, k2_ap, k2s_ap, k3c_ap, k3b_ap, k3_ap, kOI_ap, kT_ap, kAnd_ap, kOr_ap, kNot_ap, kVA_ap, kVO_ap, kVN_ap, kIf_ap, kC2_ap, kC1_ap, kTup_ap, kLst_ap, kA_ap, kG2_ap, kG1_ap, kCall_ap, kSeq_nx, kSeq_rt, kSeq_bk, kSeq_ct, kSet_ap, kDrop_ap, kRt_ap, kNxE_ap, kAsg_ap, kFor_ap, kTurn_nx, kTurn_ct, kTurn_bk, kTurn_rt, kBody_ap, kWh_ap, kPar2_ap, kPar1_ap, kP3c_ap, kP3b_ap, kP3a_ap, kRg1_ap, kRg2b_ap, kRg2_ap, kSq_list, kSq_tuple, kEnum_ap, kZip2_ll, kZip1_ap, kLcE_ap, kLc_ap, kLt3_ap, kLt2_ap, kLt1_ap, kRun_nx, kRun_rt, vP_imm, vP_lst, vP_ft, wp_var, pP_imm, pP_lst, pP_ft, wp_peek, moP_ap, wp_move, lkP_imm, lkP_ft, wp_look, gsP_src, gsP_fT, gsP_ft, gsP_imm, wp_gSrc, gnP_imm, gnP_ft, gnP_lst, wp_gNm, gfP_dT, gfP_fT, wp_gFrz, kGt_dT, kGt_imm, kGt_ft, wp_gTmp, wp_C, wp_E, wp_I, wp_1, wp_2, wp_2s, wp_3, wp_oN, wp_oS, wp_T, wp_and, wp_or, wp_not, wp_yes, wp_mIf, wp_vAnd, wp_vOr, wp_vNot, wp_aNil, wp_aCons, wp_tup, wp_lst, wp_A, wp_tupRg, wp_lstRg, wp_gNil, wp_gCons, wp_call, wp_lc, wp_wSeq, wp_wEnum, wp_wZip, wp_wRange1, wp_wRange2, wp_sNx, wp_sBk, wp_sCt, wp_sRetN, wp_seq, wp_set, wp_drop, wp_sRet, wp_sIf, wp_asg, wp_tgName, wp_tgTup, wp_tgAll0, wp_tgAll1, wp_tgN1, wp_tgNs, wp_tgG, wp_tgS0, kTgS_ap, wp_tgS1, wp_sFor, wp_par, wp_par3, wp_run, kIx_ap, isLst_ap, wp_tgIx, kAp_ap, wp_append, kPo_ap, wp_popAt, d_add, d_addb, d_addT, d_addL, d_sub, d_mul, d_mulL, d_fdiv, d_mod, d_pow, d_neg, d_lt, d_le, d_gt, d_ge, d_eq, d_ne, d_eqT, d_neT, d_eqL, d_neL, d_eqT0, d_neT0, d_eqL0, d_neL0, d_eqS, d_neS, d_isN, d_isntN, d_lenT, d_lenL, d_abs, d_int, d_intb, d_tupT, d_tupL, tupP_ft, d_listT, d_listL, d_max, d_min, d_ixT, d_ixL, d_slT, d_slL, cut_to, cut_from, d_revL, d_revT, d_repr, wp_pk, wp_tup0, wp_wipe, wp_wipe0, wp_rest, wp_rest0, ix_zs, ap_zs, ap_z0, po_zs, at0_nat, at0_nat1, toN1, toN2, Int.toNat_natCast, rangeD_rng, rangeD_sub, d_sort, d_sortT, wp_dnewT, kDg2_ap, kDg1_ap, dkO_dT, dkO_fT, isSome_some, wp_dget2, kDp2_ap, kDp1_ap, wp_dput, kDE_lst, kDE_imm, kDE_ft, wp_dictE, List.getElem?_cons_zero, List.getElem?_cons_succ, List.set_cons_zero, List.set_cons_succ, List.length_cons, List.length_nil, List.length_map, List.map_cons, List.map_nil, List.replicate_succ, List.replicate_zero, List.nil_append, List.cons_append, Nat.reduceSub, Nat.reduceAdd, Nat.reduceLeDiff, Nat.reduceLT, Nat.zero_add, Nat.sub_self, decide_eq_true_eq, Bool.not_eq_true', decide_eq_false_iff_not, ite_true, ite_false, if_true, if_false, reduceIte, Bool.true_eq_false, Bool.false_eq_true, and_true, true_and, true_implies, not_true_eq_false, not_false_eq_true, Int.reduceLE, Int.reduceLT, gt_iff_lt, wp_indexT, itP_ft, itP_it, kIt_ap, kIr_ap, wp_disp2, kD1_ap, kD2_ap, kD3_ap, kD4_ap, kD5_ap, kD6_ap, wp_chain, kCn1_ap, kCn2_ap, kCnS_ap, kCn3_ap, kCn4_ap, d_sum, d_max1, d_min1, tgt hsb]
        refine wp_below2 (low_row hv (wd_rev lww.wd)) hu (by omega) (by omega) hsb (tupI _) _ (fun hc => ?_) (fun hc => absurd (iff.mp hb) hc)
        nofun
        rw [d_neB]
        nofun
        exact ⟨_, _, _, _, _, _, _, _, _, _, _, _, _, _, _, rfl⟩
      · simp (disch := (first | omega | (simp only [List.length_set, List.length_map, List.length_append, List.length_take, List.length_drop, rng_len]; omega))) only [wp_ret, wp_bad, wp_ok, wp_if, kR_ap, slP_imm, slP_lst, slP_ft, kE_ap, kI_ap, k1_ap, k2b_ap, k2_ap, k2s_ap, k3c_ap, k3b_ap, k3_ap, kOI_ap, kT_ap, kAnd_ap, kOr_ap, kNot_ap, kVA_ap, kVO_ap, kVN_ap, kIf_ap, kC2_ap, kC1_ap, kTup_ap, kLst_ap, kA_ap, kG2_ap, kG1_ap, kCall_ap, kSeq_nx, kSeq_rt, kSeq_bk, kSeq_ct, kSet_ap, kDrop_ap, kRt_ap, kNxE_ap, kAsg_ap, kFor_ap, kTurn_nx, kTurn_ct, kTurn_bk, kTurn_rt, kBody_ap, kWh_ap, kPar2_ap, kPar1_ap, kP3c_ap, kP3b_ap, kP3a_ap, kRg1_ap, kRg2b_ap, kRg2_ap, kSq_list, kSq_tuple, kEnum_ap, kZip2_ll, kZip1_ap, kLcE_ap, kLc_ap, kLt3_ap, kLt2_ap, kLt1_ap, kRun_nx, kRun_rt, vP_imm, vP_lst, vP_ft, wp_var, pP_imm, pP_lst, pP_ft, wp_peek, moP_ap, wp_move, lkP_imm, lkP_ft, wp_look, gsP_src, gsP_fT, gsP_ft, gsP_imm, wp_gSrc, gnP_imm, gnP_ft, gnP_lst, wp_gNm, gfP_dT, gfP_fT, wp_gFrz, kGt_dT, kGt_imm, kGt_ft, wp_gTmp, wp_C, wp_E, wp_I, wp_1, wp_2, wp_2s, wp_3, wp_oN, wp_oS, wp_T, wp_and, wp_or, wp_not, wp_yes, wp_mIf, wp_vAnd, wp_vOr, wp_vNot, wp_aNil, wp_aCons, wp_tup, wp_lst, wp_A, wp_tupRg, wp_lstRg, wp_gNil, wp_gCons, wp_call, wp_lc, wp_wSeq, wp_wEnum, wp_wZip, wp_wRange1, wp_wRange2, wp_sNx, wp_sBk, wp_sCt, wp_sRetN, wp_seq, wp_set, wp_drop, wp_sRet, wp_sIf, wp_asg, wp_tgName, wp_tgTup, wp_tgAll0, wp_tgAll1, wp_tgN1, wp_tgNs, wp_tgG, wp_tgS0, kTgS_ap, wp_tgS1, wp_sFor, wp_par, wp_par3, wp_run, kIx_ap, isLst_ap, wp_tgIx, kAp_ap, wp_append, kPo_ap, wp_popAt, d_add, d_addb, d_addT, d_addL, d_sub, d_mul, d_mulL, d_fdiv, d_mod, d_pow, d_neg, d_lt, d_le, d_gt, d_ge, d_eq, d_ne, d_eqT, d_neT, d_eqL, d_neL, d_eqT0, d_neT0, d_eqL0, d_neL0, d_eqS, d_neS, d_isN, d_isntN, d_lenT, d_lenL, d_abs, d_int, d_intb, d_tupT, d_tupL, tupP_ft, d_listT, d_listL, d_max, d_min, d_ixT, d_ixL, d_slT, d_slL, cut_to, cut_from, d_revL, d_revT, d_repr, wp_pk, wp_tup0, wp_wipe, wp_wipe0, wp_rest, wp_rest0, ix_zs, ap_zs, ap_z0, po_zs, at0_nat, at0_nat1, toN1, toN2, Int.toNat_natCast, rangeD_rng, rangeD_sub, d_sort, d_sortT, wp_dnewT, kDg2_ap, kDg1_ap, dkO_dT, dkO_fT, isSome_some, wp_dget2, kDp2_ap, kDp1_ap, wp_dput, kDE_lst, kDE_imm, kDE_ft, wp_dictE, List.getElem?_cons_zero, List.getElem?_cons_succ, List.set_cons_zero, List.set_cons_succ, List.length_cons, List.length_nil, List.length_map, List.map_cons, List.map_nil, List.replicate_succ, List.replicate_zero, List.nil_append, List.cons_append, Nat.reduceSub, Nat.reduceAdd, Nat.reduceLeDiff, Nat.reduceLT, Nat.zero_add, Nat.sub_self, decide_eq_true_eq, Bool.not_eq_true', decide_eq_false_iff_not, ite_true, ite_false, if_true, if_false, reduceIte, Bool.true_eq_false, Bool.false_eq_true, and_true, true_and, true_implies, not_true_eq_false, not_false_eq_true, Int.reduceLE, Int.reduceLT, gt_iff_lt, wp_indexT, itP_ft, itP_it, kIt_ap, kIr_ap, wp_disp2, kD1_ap, kD2_ap, kD3_ap, kD4_ap, kD5_ap, kD6_ap, wp_chain, kCn1_ap, kCn2_ap, kCnS_ap, kCn3_ap, kCn4_ap, d_sum, d_max1, d_min1, tgn hs16]
        refine wp_less hv hw (by omega) (by omega) hs16 (tupI _) _ fun w2 sb hw2 hsb => ?_
        obtain rfl := hww.uniq hw2
        simp (disch := (first | omega | (simp only [List.length_set, List.length_map, List.length_append, List.length_take, List.length_drop, rng_len]; omega))) only [wp_ret, wp_bad, wp_ok, wp_if, kR_ap, slP_imm, slP_lst, slP_ft, kE_ap, kI_ap, k1_ap, k2b_ap, k2_ap, k2s_ap, k3c_ap, k3b_ap, k3_ap, kOI_ap, kT_ap, kAnd_ap, kOr_ap, kNot_ap, kVA_ap, kVO_ap, kVN_ap, kIf_ap, kC2_ap, kC1_ap, kTup_ap, kLst_ap, kA_ap, kG2_ap, kG1_ap, kCall_ap, kSeq_nx, kSeq_rt, kSeq_bk, kSeq_ct, kSet_ap, kDrop_ap, kRt_ap, kNxE_ap, kAsg_ap, kFor_ap, kTurn_nx, kTurn_ct, kTurn_bk, kTurn_rt, kBody_ap, kWh_ap, kPar2_ap, kPar1_ap, kP3c_ap, kP3b_ap, kP3a_ap, kRg1_ap, kRg2b_ap, kRg2_ap, kSq_list, kSq_tuple, kEnum_ap, kZip2_ll, kZip1_ap, kLcE_ap, kLc_ap, kLt3_ap, kLt2_ap, kLt1_ap, kRun_nx, kRun_rt, vP_imm, vP_lst, vP_ft, wp_var, pP_imm, pP_lst, pP_ft, wp_peek, moP_ap, wp_move, lkP_imm, lkP_ft, wp_look, gsP_src, gsP_fT, gsP_ft, gsP_imm, wp_gSrc, gnP_imm, gnP_ft, gnP_lst, wp_gNm, gfP_dT, gfP_fT, wp_gFrz, kGt_dT, kGt_imm, kGt_ft, wp_gTmp, wp_C, wp_E, wp_I, wp_1, wp_2, wp_2s, wp_3, wp_oN, wp_oS, wp_T, wp_and, wp_or, wp_not, wp_yes, wp_mIf, wp_vAnd, wp_vOr, wp_vNot, wp_aNil, wp_aCons, wp_tup, wp_lst, wp_A, wp_tupRg, wp_lstRg, wp_gNil, wp_gCons, wp_call, wp_lc, wp_wSeq, wp_wEnum, wp_wZip, wp_wRange1, wp_wRange2, wp_sNx, wp_sBk, wp_sCt, wp_sRetN, wp_seq, wp_set, wp_drop, wp_sRet, wp_sIf, wp_asg, wp_tgName, wp_tgTup, wp_tgAll0, wp_tgAll1, wp_tgN1, wp_tgNs, wp_tgG, wp_tgS0, kTgS_ap, wp_tgS1, wp_sFor, wp_par, wp_par3, wp_run, kIx_ap, isLst_ap, wp_tgIx, kAp_ap, wp_append, kPo_ap, wp_popAt, d_add, d_addb, d_addT, d_addL, d_sub, d_mul, d_mulL, d_fdiv, d_mod, d_pow, d_neg, d_lt, d_le, d_gt, d_ge, d_eq, d_ne, d_eqT, d_neT, d_eqL, d_neL, d_eqT0, d_neT0, d_eqL0, d_neL0, d_eqS, d_neS, d_isN, d_isntN, d_lenT, d_lenL, d_abs, d_int, d_intb, d_tupT, d_tupL, tupP_ft, d_listT, d_listL, d_max, d_min, d_ixT, d_ixL, d_slT, d_slL, cut_to, cut_from, d_revL, d_revT, d_repr, wp_pk, wp_tup0, wp_wipe, wp_wipe0, wp_rest, wp_rest0, ix_zs, ap_zs, ap_z0, po_zs, at0_nat, at0_nat1, toN1, toN2, Int.toNat_natCast, rangeD_rng, rangeD_sub, d_sort, d_sortT, wp_dnewT, kDg2_ap, kDg1_ap, dkO_dT, dkO_fT, isSome_some, wp_dget2, kDp2_ap, kDp1_ap, wp_dput, kDE_lst, kDE_imm, kDE_ft, wp_dictE, List.getElem?_cons_zero, List.getElem?_cons_succ, List.set_cons_zero, List.set_cons_succ, List.length_cons, List.length_nil, List.length_map, List.map_cons, List.map_nil, List.replicate_succ, List.replicate_zero, List.nil_append, List.cons_append, Nat.reduceSub, Nat.reduceAdd, Nat.reduceLeDiff, Nat.reduceLT, Nat.zero_add, Nat.sub_self, decide_eq_true_eq, Bool.not_eq_true', decide_eq_false_iff_not, ite_true, ite_false, if_true, if_false, reduceIte, Bool.true_eq_false, Bool.false_eq_true, and_true, true_and, true_implies, not_true_eq_false, not_false_eq_true, Int.reduceLE, Int.reduceLT, gt_iff_lt, wp_indexT, itP_ft, itP_it, kIt_ap, kIr_ap, wp_disp2, kD1_ap, kD2_ap, kD3_ap, kD4_ap, kD5_ap, kD6_ap, wp_chain, kCn1_ap, kCn2_ap, kCnS_ap, kCn3_ap, kCn4_ap, d_sum, d_max1, d_min1, tgt hsb]
        refine wp_below2 (low_row hv (wd_rev lww.wd)) hu (by omega) (by omega) hsb (tupI _) _ (fun hc => absurd (iff.mpr hc) hb) (fun hc => ?_)
        nofun
        rw [d_neB]
        nofun
        exact ⟨_, _, _, _, _, _, _, _, _, _, _, _, _, _, _, rfl⟩
    intro j g0 g1
    by_cases c : j = 0
    · rw [if_pos c]
      have k1 := key v _ hv (tupI _) e2 (some (.imm (.int (m + 1 : Nat)))) none none e6 e7 e8 e9 e10 e11 e12 e13 e14 (some (.imm (.int x0))) none
      simp (disch := (first | omega | (simp only [List.length_set, List.length_map, List.length_append, List.length_take, List.length_drop, rng_len]; omega))) only [wp_ret, wp_bad, wp_ok, wp_if, kR_ap, slP_imm, slP_lst, slP_ft, kE_ap, kI_ap, k1_ap, k2b_ap, k2_ap, k2s_ap, k3c_ap, k3b_ap, k3_ap, kOI_ap, kT_ap, kAnd_ap, kOr_ap, kNot_ap, kVA_ap, kVO_ap, kVN_ap, kIf_ap, kC2_ap, kC1_ap, kTup_ap, kLst_ap, kA_ap, kG2_ap, kG1_ap, kCall_ap, kSeq_nx, kSeq_rt, kSeq_bk, kSeq_ct, kSet_ap, kDrop_ap, kRt_ap, kNxE_ap, kAsg_ap, kFor_ap, kTurn_nx, kTurn_ct, kTurn_bk, kTurn_rt, kBody_ap, kWh_ap, kPar2_ap, kPar1_ap, kP3c_ap, kP3b_ap, kP3a_ap, kRg1_ap, kRg2b_ap, kRg2_ap, kSq_list, kSq_tuple, kEnum_ap, kZip2_ll, kZip1_ap, kLcE_ap, kLc_ap, kLt3_ap, kLt2_ap, kLt1_ap, kRun_nx, kRun_rt, vP_imm, vP_lst, vP_ft, wp_var, pP_imm, pP_lst, pP_ft, wp_peek, moP_ap, wp_move, lkP_imm, lkP_ft, wp_look, gsP_src, gsP_fT, gsP_ft, gsP_imm, wp_gSrc, gnP_imm, gnP_ft, gnP_lst, wp_gNm, gfP_dT, gfP_fT, wp_gFrz, kGt_dT, kGt_imm, kGt_ft, wp_gTmp, wp_C, wp_E, wp_I, wp_1, wp_2, wp_2s, wp_3, wp_oN, wp_oS, wp_T, wp_and, wp_or, wp_not, wp_yes, wp_mIf, wp_vAnd, wp_vOr, wp_vNot, wp_aNil, wp_aCons, wp_tup, wp_lst, wp_A, wp_tupRg, wp_lstRg, wp_gNil, wp_gCons, wp_call, wp_lc, wp_wSeq, wp_wEnum, wp_wZip, wp_wRange1, wp_wRange2, wp_sNx, wp_sBk, wp_sCt, wp_sRetN, wp_seq, wp_set, wp_drop, wp_sRet, wp_sIf, wp_asg, wp_tgName, wp_tgTup, wp_tgAll0, wp_tgAll1, wp_tgN1, wp_tgNs, wp_tgG, wp_tgS0, kTgS_ap, wp_tgS1, wp_sFor, wp_par, wp_par3, wp_run, kIx_ap, isLst_ap, wp_tgIx, kAp_ap, wp_append, kPo_ap, wp_popAt, d_add, d_addb, d_addT, d_addL, d_sub, d_mul, d_mulL, d_fdiv, d_mod, d_pow, d_neg, d_lt, d_le, d_gt, d_ge, d_eq, d_ne, d_eqT, d_neT, d_eqL, d_neL, d_eqT0, d_neT0, d_eqL0, d_neL0, d_eqS, d_neS, d_isN, d_isntN, d_lenT, d_lenL, d_abs, d_int, d_intb, d_tupT, d_tupL, tupP_ft, d_listT, d_listL, d_max, d_min, d_ixT, d_ixL, d_slT, d_slL, cut_to, cut_from, d_revL, d_revT, d_repr, wp_pk, wp_tup0, wp_wipe, wp_wipe0, wp_rest, wp_rest0, ix_zs, ap_zs, ap_z0, po_zs, at0_nat, at0_nat1, toN1, toN2, Int.toNat_natCast, rangeD_rng, rangeD_sub, d_sort, d_sortT, wp_dnewT, kDg2_ap, kDg1_ap, dkO_dT, dkO_fT, isSome_some, wp_dget2, kDp2_ap, kDp1_ap, wp_dput, kDE_lst, kDE_imm, kDE_ft, wp_dictE, List.getElem?_cons_zero, List.getElem?_cons_succ, List.set_cons_zero, List.set_cons_succ, List.length_cons, List.length_nil, List.length_map, List.map_cons, List.map_nil, List.replicate_succ, List.replicate_zero, List.nil_append, List.cons_append, Nat.reduceSub, Nat.reduceAdd, Nat.reduceLeDiff, Nat.reduceLT, Nat.zero_add, Nat.sub_self, decide_eq_true_eq, Bool.not_eq_true', decide_eq_false_iff_not, ite_true, ite_false, if_true, if_false, reduceIte, Bool.true_eq_false, Bool.false_eq_true, and_true, true_and, true_implies, not_true_eq_false, not_false_eq_true, Int.reduceLE, Int.reduceLT, gt_iff_lt, wp_indexT, itP_ft, itP_it, kIt_ap, kIr_ap, wp_disp2, kD1_ap, kD2_ap, kD3_ap, kD4_ap, kD5_ap, kD6_ap, wp_chain, kCn1_ap, kCn2_ap, kCnS_ap, kCn3_ap, kCn4_ap, d_sum, d_max1, d_min1, Nat.add_zero] at k1
      exact k1
    · rw [if_neg c]
      refine wp_once hu hw (by omega) (by omega) (tupI _) (tupI _) _ fun ww sa hww hsa => ?_
      have lww := hww.lwd hw
      have hsa : TupS sa (zs (oc u ww)) := hsa
      have ha := oc_row hu lww.wd
      simp (disch := (first | omega | (simp only [List.length_set, List.length_map, List.length_append, List.length_take, List.length_drop, rng_len]; omega))) only [wp_ret, wp_bad, wp_ok, wp_if, kR_ap, slP_imm, slP_lst, slP_ft, kE_ap, kI_ap, k1_ap, k2b_ap, k2_ap, k2s_ap, k3c_ap, k3b_ap, k3_ap, kOI_ap, kT_ap, kAnd_ap, kOr_ap, kNot_ap, kVA_ap, kVO_ap, kVN_ap, kIf_ap, kC2_ap, kC1_ap, kTup_ap, kLst_ap, kA_ap, kG2_ap, kG1_ap, kCall_ap, kSeq_nx, kSeq_rt, kSeq_bk, kSeq_ct, kSet_ap, kDrop_ap, kRt_ap, kNxE_ap, kAsg_ap, kFor_ap, kTurn_nx, kTurn_ct, kTurn_bk, kTurn_rt, kBody_ap, kWh_ap, kPar2_ap, kPar1_ap, kP3c_ap, kP3b_ap, kP3a_ap, kRg1_ap, kRg2b_ap, kRg2_ap, kSq_list, kSq_tuple, kEnum_ap, kZip2_ll, kZip1_ap, kLcE_ap, kLc_ap, kLt3_ap, kLt2_ap, kLt1_ap, kRun_nx, kRun_rt, vP_imm, vP_lst, vP_ft, wp_var, pP_imm, pP_lst, pP_ft, wp_peek, moP_ap, wp_move, lkP_imm, lkP_ft, wp_look, gsP_src, gsP_fT, gsP_ft, gsP_imm, wp_gSrc, gnP_imm, gnP_ft, gnP_lst, wp_gNm, gfP_dT, gfP_fT, wp_gFrz, kGt_dT, kGt_imm, kGt_ft, wp_gTmp, wp_C, wp_E, wp_I, wp_1, wp_2, wp_2s, wp_3, wp_oN, wp_oS, wp_T, wp_and, wp_or, wp_not, wp_yes, wp_mIf, wp_vAnd, wp_vOr, wp_vNot, wp_aNil, wp_aCons, wp_tup, wp_lst, wp_A, wp_tupRg, wp_lstRg, wp_gNil, wp_gCons, wp_call, wp_lc, wp_wSeq, wp_wEnum, wp_wZip, wp_wRange1, wp_wRange2, wp_sNx, wp_sBk, wp_sCt, wp_sRetN, wp_seq, wp_set, wp_drop, wp_sRet, wp_sIf, wp_asg, wp_tgName, wp_tgTup, wp_tgAll0, wp_tgAll1, wp_tgN1, wp_tgNs, wp_tgG, wp_tgS0, kTgS_ap, wp_tgS1, wp_sFor, wp_par, wp_par3, wp_run, kIx_ap, isLst_ap, wp_tgIx, kAp_ap, wp_append, kPo_ap, wp_popAt, d_add, d_addb, d_addT, d_addL, d_sub, d_mul, d_mulL, d_fdiv, d_mod, d_pow, d_neg, d_lt, d_le, d_gt, d_ge, d_eq, d_ne, d_eqT, d_neT, d_eqL, d_neL, d_eqT0, d_neT0, d_eqL0, d_neL0, d_eqS, d_neS, d_isN, d_isntN, d_lenT, d_lenL, d_abs, d_int, d_intb, d_tupT, d_tupL, tupP_ft, d_listT, d_listL, d_max, d_min, d_ixT, d_ixL, d_slT, d_slL, cut_to, cut_from, d_revL, d_revT, d_repr, wp_pk, wp_tup0, wp_wipe, wp_wipe0, wp_rest, wp_rest0, ix_zs, ap_zs, ap_z0, po_zs, at0_nat, at0_nat1, toN1, toN2, Int.toNat_natCast, rangeD_rng, rangeD_sub, d_sort, d_sortT, wp_dnewT, kDg2_ap, kDg1_ap, dkO_dT, dkO_fT, isSome_some, wp_dget2, kDp2_ap, kDp1_ap, wp_dput, kDE_lst, kDE_imm, kDE_ft, wp_dictE, List.getElem?_cons_zero, List.getElem?_cons_succ, List.set_cons_zero, List.set_cons_succ, List.length_cons, List.length_nil, List.length_map, List.map_cons, List.map_nil, List.replicate_succ, List.replicate_zero, List.nil_append, List.cons_append, Nat.reduceSub, Nat.reduceAdd, Nat.reduceLeDiff, Nat.reduceLT, Nat.zero_add, Nat.sub_self, decide_eq_true_eq, Bool.not_eq_true', decide_eq_false_iff_not, ite_true, ite_false, if_true, if_false, reduceIte, Bool.true_eq_false, Bool.false_eq_true, and_true, true_and, true_implies, not_true_eq_false, not_false_eq_true, Int.reduceLE, Int.reduceLT, gt_iff_lt, wp_indexT, itP_ft, itP_it, kIt_ap, kIr_ap, wp_disp2, kD1_ap, kD2_ap, kD3_ap, kD4_ap, kD5_ap, kD6_ap, wp_chain, kCn1_ap, kCn2_ap, kCnS_ap, kCn3_ap, kCn4_ap, d_sum, d_max1, d_min1, tgt hsa]
      refine ⟨by omega, by rw [rng_len]; omega, ?_⟩
      refine wp_raised (m := 2) (rng_row (m + 1)) (by omega) (by omega) (by omega) (tupI _) _ fun r sr hr hsr => ?_
      simp (disch := (first | omega | (simp only [List.length_set, List.length_map, List.length_append, List.length_take, List.length_drop, rng_len]; omega))) only [wp_ret, wp_bad, wp_ok, wp_if, kR_ap, slP_imm, slP_lst, slP_ft, kE_ap, kI_ap, k1_ap, k2b_ap, k2_ap, k2s_ap, k3c_ap, k3b_ap, k3_ap, kOI_ap, kT_ap, kAnd_ap, kOr_ap, kNot_ap, kVA_ap, kVO_ap, kVN_ap, kIf_ap, kC2_ap, kC1_ap, kTup_ap, kLst_ap, kA_ap, kG2_ap, kG1_ap, kCall_ap, kSeq_nx, kSeq_rt, kSeq_bk, kSeq_ct, kSet_ap, kDrop_ap, kRt_ap, kNxE_ap, kAsg_ap, kFor_ap, kTurn_nx, kTurn_ct, kTurn_bk, kTurn_rt, kBody_ap, kWh_ap, kPar2_ap, kPar1_ap, kP3c_ap, kP3b_ap, kP3a_ap, kRg1_ap, kRg2b_ap, kRg2_ap, kSq_list, kSq_tuple, kEnum_ap, kZip2_ll, kZip1_ap, kLcE_ap, kLc_ap, kLt3_ap, kLt2_ap, kLt1_ap, kRun_nx, kRun_rt, vP_imm, vP_lst, vP_ft, wp_var, pP_imm, pP_lst, pP_ft, wp_peek, moP_ap, wp_move, lkP_imm, lkP_ft, wp_look, gsP_src, gsP_fT, gsP_ft, gsP_imm, wp_gSrc, gnP_imm, gnP_ft, gnP_lst, wp_gNm, gfP_dT, gfP_fT, wp_gFrz, kGt_dT, kGt_imm, kGt_ft, wp_gTmp, wp_C, wp_E, wp_I, wp_1, wp_2, wp_2s, wp_3, wp_oN, wp_oS, wp_T, wp_and, wp_or, wp_not, wp_yes, wp_mIf, wp_vAnd, wp_vOr, wp_vNot, wp_aNil, wp_aCons, wp_tup, wp_lst, wp_A, wp_tupRg, wp_lstRg, wp_gNil, wp_gCons, wp_call, wp_lc, wp_wSeq, wp_wEnum, wp_wZip, wp_wRange1, wp_wRange2, wp_sNx, wp_sBk, wp_sCt, wp_sRetN, wp_seq, wp_set, wp_drop, wp_sRet, wp_sIf, wp_asg, wp_tgName, wp_tgTup, wp_tgAll0, wp_tgAll1, wp_tgN1, wp_tgNs, wp_tgG, wp_tgS0, kTgS_ap, wp_tgS1, wp_sFor, wp_par, wp_par3, wp_run, kIx_ap, isLst_ap, wp_tgIx, kAp_ap, wp_append, kPo_ap, wp_popAt, d_add, d_addb, d_addT, d_addL, d_sub, d_mul, d_mulL, d_fdiv, d_mod, d_pow, d_neg, d_lt, d_le, d_gt, d_ge, d_eq, d_ne, d_eqT, d_neT, d_eqL, d_neL, d_eqT0, d_neT0, d_eqL0, d_neL0, d_eqS, d_neS, d_isN, d_isntN, d_lenT, d_lenL, d_abs, d_int, d_intb, d_tupT, d_tupL, tupP_ft, d_listT, d_listL, d_max, d_min, d_ixT, d_ixL, d_slT, d_slL, cut_to, cut_from, d_revL, d_revT, d_repr, wp_pk, wp_tup0, wp_wipe, wp_wipe0, wp_rest, wp_rest0, ix_zs, ap_zs, ap_z0, po_zs, at0_nat, at0_nat1, toN1, toN2, Int.toNat_natCast, rangeD_rng, rangeD_sub, d_sort, d_sortT, wp_dnewT, kDg2_ap, kDg1_ap, dkO_dT, dkO_fT, isSome_some, wp_dget2, kDp2_ap, kDp1_ap, wp_dput, kDE_lst, kDE_imm, kDE_ft, wp_dictE, List.getElem?_cons_zero, List.getElem?_cons_succ, List.set_cons_zero, List.set_cons_succ, List.length_cons, List.length_nil, List.length_map, List.map_cons, List.map_nil, List.replicate_succ, List.replicate_zero, List.nil_append, List.cons_append, Nat.reduceSub, Nat.reduceAdd, Nat.reduceLeDiff, Nat.reduceLT, Nat.zero_add, Nat.sub_self, decide_eq_true_eq, Bool.not_eq_true', decide_eq_false_iff_not, ite_true, ite_false, if_true, if_false, reduceIte, Bool.true_eq_false, Bool.false_eq_true, and_true, true_and, true_implies, not_true_eq_false, not_false_eq_true, Int.reduceLE, Int.reduceLT, gt_iff_lt, wp_indexT, itP_ft, itP_it, kIt_ap, kIr_ap, wp_disp2, kD1_ap, kD2_ap, kD3_ap, kD4_ap, kD5_ap, kD6_ap, wp_chain, kCn1_ap, kCn2_ap, kCnS_ap, kCn3_ap, kCn4_ap, d_sum, d_max1, d_min1, tgt hsr]
      refine wp_less ha hr (by omega) (by omega) hsa hsr _ fun wr sv hwr hsv => ?_
      simp (disch := (first | omega | (simp only [List.length_set, List.length_map, List.length_append, List.length_take, List.length_drop, rng_len]; omega))) only [wp_ret, wp_bad, wp_ok, wp_if, kR_ap, slP_imm, slP_lst, slP_ft, kE_ap, kI_ap, k1_ap, k2b_ap, k2_ap, k2s_ap, k3c_ap, k3b_ap, k3_ap, kOI_ap, kT_ap, kAnd_ap, kOr_ap, kNot_ap, kVA_ap, kVO_ap, kVN_ap, kIf_ap, kC2_ap, kC1_ap, kTup_ap, kLst_ap, kA_ap, kG2_ap, kG1_ap, kCall_ap, kSeq_nx, kSeq_rt, kSeq_bk, kSeq_ct, kSet_ap, kDrop_ap, kRt_ap, kNxE_ap, kAsg_ap, kFor_ap, kTurn_nx, kTurn_ct, kTurn_bk, kTurn_rt, kBody_ap, kWh_ap, kPar2_ap, kPar1_ap, kP3c_ap, kP3b_ap, kP3a_ap, kRg1_ap, kRg2b_ap, kRg2_ap, kSq_list, kSq_tuple, kEnum_ap, kZip2_ll, kZip1_ap, kLcE_ap, kLc_ap, kLt3_ap, kLt2_ap, kLt1_ap, kRun_nx, kRun_rt, vP_imm, vP_lst, vP_ft, wp_var, pP_imm, pP_lst, pP_ft, wp_peek, moP_ap, wp_move, lkP_imm, lkP_ft, wp_look, gsP_src, gsP_fT, gsP_ft, gsP_imm, wp_gSrc, gnP_imm, gnP_ft, gnP_lst, wp_gNm, gfP_dT, gfP_fT, wp_gFrz, kGt_dT, kGt_imm, kGt_ft, wp_gTmp, wp_C, wp_E, wp_I, wp_1, wp_2, wp_2s, wp_3, wp_oN, wp_oS, wp_T, wp_and, wp_or, wp_not, wp_yes, wp_mIf, wp_vAnd, wp_vOr, wp_vNot, wp_aNil, wp_aCons, wp_tup, wp_lst, wp_A, wp_tupRg, wp_lstRg, wp_gNil, wp_gCons, wp_call, wp_lc, wp_wSeq, wp_wEnum, wp_wZip, wp_wRange1, wp_wRange2, wp_sNx, wp_sBk, wp_sCt, wp_sRetN, wp_seq, wp_set, wp_drop, wp_sRet, wp_sIf, wp_asg, wp_tgName, wp_tgTup, wp_tgAll0, wp_tgAll1, wp_tgN1, wp_tgNs, wp_tgG, wp_tgS0, kTgS_ap, wp_tgS1, wp_sFor, wp_par, wp_par3, wp_run, kIx_ap, isLst_ap, wp_tgIx, kAp_ap, wp_append, kPo_ap, wp_popAt, d_add, d_addb, d_addT, d_addL, d_sub, d_mul, d_mulL, d_fdiv, d_mod, d_pow, d_neg, d_lt, d_le, d_gt, d_ge, d_eq, d_ne, d_eqT, d_neT, d_eqL, d_neL, d_eqT0, d_neT0, d_eqL0, d_neL0, d_eqS, d_neS, d_isN, d_isntN, d_lenT, d_lenL, d_abs, d_int, d_intb, d_tupT, d_tupL, tupP_ft, d_listT, d_listL, d_max, d_min, d_ixT, d_ixL, d_slT, d_slL, cut_to, cut_from, d_revL, d_revT, d_repr, wp_pk, wp_tup0, wp_wipe, wp_wipe0, wp_rest, wp_rest0, ix_zs, ap_zs, ap_z0, po_zs, at0_nat, at0_nat1, toN1, toN2, Int.toNat_natCast, rangeD_rng, rangeD_sub, d_sort, d_sortT, wp_dnewT, kDg2_ap, kDg1_ap, dkO_dT, dkO_fT, isSome_some, wp_dget2, kDp2_ap, kDp1_ap, wp_dput, kDE_lst, kDE_imm, kDE_ft, wp_dictE, List.getElem?_cons_zero, List.getElem?_cons_succ, List.set_cons_zero, List.set_cons_succ, List.length_cons, List.length_nil, List.length_map, List.map_cons, List.map_nil, List.replicate_succ, List.replicate_zero, List.nil_append, List.cons_append, Nat.reduceSub, Nat.reduceAdd, Nat.reduceLeDiff, Nat.reduceLT, Nat.zero_add, Nat.sub_self, decide_eq_true_eq, Bool.not_eq_true', decide_eq_false_iff_not, ite_true, ite_false, if_true, if_false, reduceIte, Bool.true_eq_false, Bool.false_eq_true, and_true, true_and, true_implies, not_true_eq_false, not_false_eq_true, Int.reduceLE, Int.reduceLT, gt_iff_lt, wp_indexT, itP_ft, itP_it, kIt_ap, kIr_ap, wp_disp2, kD1_ap, kD2_ap, kD3_ap, kD4_ap, kD5_ap, kD6_ap, wp_chain, kCn1_ap, kCn2_ap, kCnS_ap, kCn3_ap, kCn4_ap, d_sum, d_max1, d_min1, tgn hsv]
      have k1 := key _ sv (low_row ha (wd_rev (hwr.lwd hr).wd)) hsv e2 (some (.imm (.int (m + 1 : Nat)))) none none e6 e7 e8 e9 e10 e11 e12 e13 e14 (some (.imm (.int x0))) none
      simp (disch := (first | omega | (simp only [List.length_set, List.length_map, List.length_append, List.length_take, List.length_drop, rng_len]; omega))) only [wp_ret, wp_bad, wp_ok, wp_if, kR_ap, slP_imm, slP_lst, slP_ft, kE_ap, kI_ap, k1_ap, k2b_ap, k2_ap, k2s_ap, k3c_ap, k3b_ap, k3_ap, kOI_ap, kT_ap, kAnd_ap, kOr_ap, kNot_ap, kVA_ap, kVO_ap, kVN_ap, kIf_ap, kC2_ap, kC1_ap, kTup_ap, kLst_ap, kA_ap, kG2_ap, kG1_ap, kCall_ap, kSeq_nx, kSeq_rt, kSeq_bk, kSeq_ct, kSet_ap, kDrop_ap, kRt_ap, kNxE_ap, kAsg_ap, kFor_ap, kTurn_nx, kTurn_ct, kTurn_bk, kTurn_rt, kBody_ap, kWh_ap, kPar2_ap, kPar1_ap, kP3c_ap, kP3b_ap, kP3a_ap, kRg1_ap, kRg2b_ap, kRg2_ap, kSq_list, kSq_tuple, kEnum_ap, kZip2_ll, kZip1_ap, kLcE_ap, kLc_ap, kLt3_ap, kLt2_ap, kLt1_ap, kRun_nx, kRun_rt, vP_imm, vP_lst, vP_ft, wp_var, pP_imm, pP_lst, pP_ft, wp_peek, moP_ap, wp_move, lkP_imm, lkP_ft, wp_look, gsP_src, gsP_fT, gsP_ft, gsP_imm, wp_gSrc, gnP_imm, gnP_ft, gnP_lst, wp_gNm, gfP_dT, gfP_fT, wp_gFrz, kGt_dT, kGt_imm, kGt_ft, wp_gTmp, wp_C, wp_E, wp_I, wp_1, wp_2, wp_2s, wp_3, wp_oN, wp_oS, wp_T, wp_and, wp_or, wp_not, wp_yes, wp_mIf, wp_vAnd, wp_vOr, wp_vNot, wp_aNil, wp_aCons, wp_tup, wp_lst, wp_A, wp_tupRg, wp_lstRg, wp_gNil, wp_gCons, wp_call, wp_lc, wp_wSeq, wp_wEnum, wp_wZip, wp_wRange1, wp_wRange2, wp_sNx, wp_sBk, wp_sCt, wp_sRetN, wp_seq, wp_set, wp_drop, wp_sRet, wp_sIf, wp_asg, wp_tgName, wp_tgTup, wp_tgAll0, wp_tgAll1, wp_tgN1, wp_tgNs, wp_tgG, wp_tgS0, kTgS_ap, wp_tgS1, wp_sFor, wp_par, wp_par3, wp_run, kIx_ap, isLst_ap, wp_tgIx, kAp_ap, wp_append, kPo_ap, wp_popAt, d_add, d_addb, d_addT, d_addL, d_sub, d_mul, d_mulL, d_fdiv, d_mod, d_pow, d_neg, d_lt, d_le, d_gt, d_ge, d_eq, d_ne, d_eqT, d_neT, d_eqL, d_neL, d_eqT0, d_neT0, d_eqL0, d_neL0, d_eqS, d_neS, d_isN, d_isntN, d_lenT, d_lenL, d_abs, d_int, d_intb, d_tupT, d_tupL, tupP_ft, d_listT, d_listL, d_max, d_min, d_ixT, d_ixL, d_slT, d_slL, cut_to, cut_from, d_revL, d_revT, d_repr, wp_pk, wp_tup0, wp_wipe, wp_wipe0, wp_rest, wp_rest0, ix_zs, ap_zs, ap_z0, po_zs, at0_nat, at0_nat1, toN1, toN2, Int.toNat_natCast, rangeD_rng, rangeD_sub, d_sort, d_sortT, wp_dnewT, kDg2_ap, kDg1_ap, dkO_dT, dkO_fT, isSome_some, wp_dget2, kDp2_ap, kDp1_ap, wp_dput, kDE_lst, kDE_imm, kDE_ft, wp_dictE, List.getElem?_cons_zero, List.getElem?_cons_succ, List.set_cons_zero, List.set_cons_succ, List.length_cons, List.length_nil, List.length_map, List.map_cons, List.map_nil, List.replicate_succ, List.replicate_zero, List.nil_append, List.cons_append, Nat.reduceSub, Nat.reduceAdd, Nat.reduceLeDiff, Nat.reduceLT, Nat.zero_add, Nat.sub_self, decide_eq_true_eq, Bool.not_eq_true', decide_eq_false_iff_not, ite_true, ite_false, if_true, if_false, reduceIte, Bool.true_eq_false, Bool.false_eq_true, and_true, true_and, true_implies, not_true_eq_false, not_false_eq_true, Int.reduceLE, Int.reduceLT, gt_iff_lt, wp_indexT, itP_ft, itP_it, kIt_ap, kIr_ap, wp_disp2, kD1_ap, kD2_ap, kD3_ap, kD4_ap, kD5_ap, kD6_ap, wp_chain, kCn1_ap, kCn2_ap, kCnS_ap, kCn3_ap, kCn4_ap, d_sum, d_max1, d_min1, tgn hsv] at k1
      exact k1
  · rintro env ⟨e2, e3, e4, e5, e6, e7, e8, e9, e10, e11, e12, e13, e14, e15, e16, rfl⟩
    exact hR _ _ _ _ _ _ _ _ _ _ _ _ _ _ _
end T

set_option Elab.async false
set_option linter.all false
set_option autoImplicit false
set_option maxRecDepth 100000
namespace T
open PySem PySem.Spec L2 PV
local macro_rules | `(tactic| nofun) => `(tactic| simp (disch := (first | omega | (simp only [List.length_set, List.length_map, List.length_append, List.length_take, List.length_drop, rng_len]; omega))) only [wp_ret, wp_bad, wp_ok, wp_if, kR_ap, slP_imm, slP_lst, slP_ft, kE_ap, kI_ap, k1_ap, k2b_ap, k2_ap, k2s_ap, k3c_ap, k3b_ap, k3_ap, kOI_ap, kT_ap, kAnd_ap, kOr_ap, kNot_ap, kVA_ap, kVO_ap, kVN_ap, kIf_ap, kC2_ap, kC1_ap, kTup_ap, kLst_ap, kA_ap, kG2_ap, kG1_ap, kCall_ap, kSeq_nx, kSeq_rt, kSeq_bk, kSeq_ct, kSet_ap, kDrop_ap, kRt_ap, kNxE_ap, kAsg_ap, kFor_ap, kTurn_nx, kTurn_ct, kTurn_bk, kTurn_rt, kBody_ap, kWh_ap, kPar2_ap, kPar1_ap, kP3c_ap, kP3b_ap, kP3a_ap, kRg1_ap, kRg2b_ap, kRg2_ap, kSq_list, kSq_tuple, kEnum_ap, kZip2_ll, kZip1_ap, kLcE_ap, kLc_ap, kLt3_ap, kLt2_ap, kLt1_ap, kRun_nx, kRun_rt, vP_imm, vP_lst, vP_ft, wp_var, pP_imm, pP_lst, pP_ft, wp_peek, moP_ap, wp_move, lkP_imm, lkP_ft, wp_look, gsP_src, gsP_fT, gsP_ft, gsP_imm, wp_gSrc, gnP_imm, gnP_ft, gnP_lst, wp_gNm, gfP_dT, gfP_fT, wp_gFrz, kGt_dT, kGt_imm, kGt_ft, wp_gTmp, wp_C, wp_E, wp_I, wp_1, wp_2, wp_2s, wp_3, wp_oN, wp_oS, wp_T, wp_and, wp_or, wp_not, wp_yes, wp_mIf, wp_vAnd, wp_vOr, wp_vNot, wp_aNil, wp_aCons, wp_tup, wp_lst, wp_A, wp_tupRg, wp_lstRg, wp_gNil, wp_gCons, wp_call, wp_lc, wp_wSeq, wp_wEnum, wp_wZip, wp_wRange1, wp_wRange2, wp_sNx, wp_sBk, wp_sCt, wp_sRetN, wp_seq, wp_set, wp_drop, wp_sRet, wp_sIf, wp_asg, wp_tgName, wp_tgTup, wp_tgAll0, wp_tgAll1, wp_tgN1, wp_tgNs, wp_tgG, wp_tgS0, kTgS_ap, wp_tgS1, wp_sFor, wp_par, wp_par3, wp_run, kIx_ap, isLst_ap, wp_tgIx, kAp_ap, wp_append, kPo_ap, wp_popAt, d_add, d_addb, d_addT, d_addL, d_sub, d_mul, d_mulL, d_fdiv, d_mod, d_pow, d_neg, d_lt, d_le, d_gt, d_ge, d_eq, d_ne, d_eqT, d_neT, d_eqL, d_neL, d_eqT0, d_neT0, d_eqL0, d_neL0, d_eqS, d_neS, d_isN, d_isntN, d_lenT, d_lenL, d_abs, d_int, d_intb, d_tupT, d_tupL, tupP_ft, d_listT, d_listL, d_max, d_min, d_ixT, d_ixL, d_slT, d_slL, cut_to, cut_from, d_revL, d_revT, d_repr, wp_pk, wp_tup0, wp_wipe, wp_wipe0, wp_rest, wp_rest0, ix_zs, ap_zs, ap_z0, po_zs, at0_nat, at0_nat1, toN1, toN2, Int.toNat_natCast, rangeD_rng, rangeD_sub, d_sort, d_sortT, wp_dnewT, kDg2_ap, kDg1_ap, dkO_dT, dkO_fT, isSome_some, wp_dget2, kDp2_ap, kDp1_ap, wp_dput, kDE_lst, kDE_imm, kDE_ft, wp_dictE, List.getElem?_cons_zero, List.getElem?_cons_succ, List.set_cons_zero, List.set_cons_succ, List.length_cons, List.length_nil, List.length_map, List.map_cons, List.map_nil, List.replicate_succ, List.replicate_zero, List.nil_append, List.cons_append, Nat.reduceSub, Nat.reduceAdd, Nat.reduceLeDiff, Nat.reduceLT, Nat.zero_add, Nat.sub_self, decide_eq_true_eq, Bool.not_eq_true', decide_eq_false_iff_not, ite_true, ite_false, if_true, if_false, reduceIte, Bool.true_eq_false, Bool.false_eq_true, and_true, true_and, true_implies, not_true_eq_false, not_false_eq_true, Int.reduceLE, Int.reduceLT, gt_iff_lt, wp_indexT, itP_ft, itP_it, kIt_ap, kIr_ap, wp_disp2, kD1_ap, kD2_ap, kD3_ap, kD4_ap, kD5_ap, kD6_ap, wp_chain, kCn1_ap, kCn2_ap, kCnS_ap, kCn3_ap, kCn4_ap, d_sum, d_max1, d_min1])
def bodyM : MS := (sSeq (sSet 3 (m2 addD (mC (.int 1)) (mI (mCall 2 w__law_pick (gSrc 1 (gCons' (mC (.int 4)) gNil'))))))
    (sSeq (sAsg (mTup (aCons (mI (mCall 2 w__law_row (gSrc 1 (gNm 3 gNil')))) (aCons (mI (mCall 2 w__law_row (gSrc 1 (gNm 3 gNil')))) (aCons (mI (mCall 2 w__law_row (gSrc 1 (gNm 3 gNil')))) aNil)))) (tgTup [4, 5, 6]))
    (sSeq (sSet 7 (mLc (wSeq (mI (mCall 1 w__law_rows_below (gNm 4 gNil')))) true [8] tYes' (mI (mCall 2 w__law_behind (gNm 8 (gNm 5 gNil'))))))
    (sSeq (sSet 9 (mCall 2 w_once (gNm 4 (gNm 5 gNil'))))
    (sSeq (sIf (mT (mI (m2 neD (mI (mLc (wSeq (mVar 7)) true [10] (tNot (mT (mI (mCall 2 w__law_is_below (gNm 10 (gNm 9 gNil')))))) (mVar 10))) (mI (mLst aNil))))) (sRet (mE (mC (.bool false)))) sNx)
    (sSeq (sSet 7 (mLc (wSeq (mI (mCall 1 w__law_rows_below (gNm 5 gNil')))) true [11] tYes' (mI (mCall 2 w__law_behind (gNm 4 (gNm 11 gNil'))))))
    (sSeq (sIf (tOr (mT (mI (m2 neD (mI (mLc (wSeq (mVar 7)) true [10] (tNot (mT (mI (mCall 2 w__law_is_below (gNm 10 (gNm 9 gNil')))))) (mVar 10))) (mI (mLst aNil))))) (mT (mI (m2 notinD (mPeek 9) (mPeek 7))))) (sRet (mE (mC (.bool false)))) sNx)
    (sSeq (sSet 12 (mLc (wSeq (mI (mCall 1 w__law_rows_below (gNm 5 gNil')))) true [11] tYes' (mI (mCall 2 w__law_behind (gNm 4 (gTmp (mCall 1 w__law_other_way (gNm 11 gNil')) gNil'))))))
    (sSeq (sSet 13 (mCall 2 w_less (gNm 4 (gNm 5 gNil'))))
    (sSeq (sIf (tOr (mT (mI (m2 neD (mI (mLc (wSeq (mVar 12)) true [10] (tNot (mT (mI (mCall 2 w__law_is_below (gNm 13 (gNm 10 gNil')))))) (mVar 10))) (mI (mLst aNil))))) (mT (mI (m2 notinD (mPeek 13) (mPeek 12))))) (sRet (mE (mC (.bool false)))) sNx)
    (sSeq (sIf (tOr (mT (mI (m2 neD (mI (mCall 2 w_once (gTmp (mCall 2 w_once (gNm 4 (gNm 5 gNil'))) (gNm 6 gNil')))) (mI (mCall 2 w_once (gNm 4 (gTmp (mCall 2 w_once (gNm 5 (gNm 6 gNil'))) gNil'))))))) (mT (mI (m2 neD (mI (mCall 2 w_less (gTmp (mCall 2 w_less (gNm 4 (gNm 5 gNil'))) (gNm 6 gNil')))) (mI (mCall 2 w_less (gNm 4 (gTmp (mCall 2 w_once (gNm 6 (gNm 5 gNil'))) gNil')))))))) (sRet (mE (mC (.bool false)))) sNx)
    (sSeq (sSet 14 (m2 eqD (mI (mCall 1 w__law_length (gTmp (mCall 2 w__law_behind (gNm 4 (gNm 5 gNil'))) gNil'))) (mI (m2 addD (mI (mCall 1 w__law_length (gNm 4 gNil'))) (mI (mCall 1 w__law_length (gNm 5 gNil')))))))
    (sSeq (sIf (tOr (mT (mI (m2 neD (mI (m2 eqD (mPeek 9) (mI (mCall 2 w__law_behind (gNm 4 (gNm 5 gNil')))))) (mPeek 14)))) (mT (mI (m2 ltD (mI (mCall 1 w__law_length (gNm 9 gNil'))) (mI (mA maxD (aCons (mI (mCall 1 w__law_length (gNm 4 gNil'))) (aCons (mI (mCall 1 w__law_length (gNm 5 gNil'))) aNil)))))))) (sRet (mE (mC (.bool false)))) sNx)
    (sFor (wRange1 (mC (.int 4))) (tgName 15) (sSeq (sSet 3 (m2 addD (mC (.int 1)) (mI (mCall 2 w__law_pick (gSrc 1 (gCons' (mC (.int 12)) gNil'))))))
    (sSeq (sAsg (mTup (aCons (mI (mCall 2 w__law_row (gSrc 1 (gNm 3 gNil')))) (aCons (mI (mCall 2 w__law_row (gSrc 1 (gNm 3 gNil')))) (aCons (mI (mCall 2 w__law_row (gSrc 1 (gNm 3 gNil')))) aNil)))) (tgTup [4, 5, 16]))
    (sSeq (sSet 16 (mIf (mT (mI (m2 eqD (mI (mCall 2 w__law_pick (gSrc 1 (gCons' (mC (.int 2)) gNil')))) (mC (.int 0))))) (mE (mVar 16)) (mCall 2 w_less (gTmp (mCall 2 w_once (gNm 4 (gNm 5 gNil'))) (gTmp (mCall 3 w__law_raised (gSrc 1 (gTmp (mTupRg (wRange1 (mVar 3))) (gCons' (mC (.int 2)) gNil')))) gNil')))))
    (sIf (mT (mI (m2 neD (mI (mCall 2 w__law_is_below (gNm 16 (gTmp (mCall 2 w_once (gNm 4 (gNm 5 gNil'))) gNil')))) (mI (mCall 2 w__law_is_below (gTmp (mCall 2 w_less (gNm 16 (gNm 5 gNil'))) (gNm 4 gNil'))))))) (sRet (mE (mC (.bool false)))) sNx))))))))))))))))))
theorem m_law_is : m_law = sSeq (sFor (wRange1 (mC (.int 3))) (tgName 2) bodyM) (sRet (mE (mC (.bool true)))) := rfl
theorem law_ok : LawOk 17 m_law := ⟨fun cs _ => by
  rw [m_law_is, ← wp_is]
  nofun
  rw [show rangeD 0 3 = (rng 3).map PyData.int from rangeD_rng 3]
  refine for_inv PyData.int (fun _ env => ∃ e2 e3 e4 e5 e6 e7 e8 e9 e10 e11 e12 e13 e14 e15 e16, env = [some (.scr cs), some .src, e2, e3, e4, e5, e6, e7, e8, e9, e10, e11, e12, e13, e14, e15, e16]) (rng 3) [] _ ⟨_, _, _, _, _, _, _, _, _, _, _, _, _, _, _, rfl⟩ ?_ ?_
  · rintro done x0 rest env e ⟨e2, e3, e4, e5, e6, e7, e8, e9, e10, e11, e12, e13, e14, e15, e16, rfl⟩
    nofun
    refine part1 cs _ _ _ _ _ _ _ _ _ _ _ _ _ _ _ _ _ fun n u w x ww s9 e7 e8 e10 h1 h4 hu hw hx hww hs9 => ?_
    refine part2 cs n u w x ww s9 h1 h4 hu hw hww hs9 _ _ _ none none _ _ _ none _ _ _ _ _ _ _ _ fun e7 e10 e11 => ?_
    refine part3 cs n u w x ww h1 h4 hu hw hww _ _ _ none none _ _ _ _ _ _ _ _ _ _ _ _ fun e10 e11 e12 e13 => ?_
    refine part4 cs n u w x h1 h4 hu hw hx _ _ _ none none none _ _ _ _ _ _ _ _ _ _ _ ?_
    refine part5 cs n u w ww s9 h1 h4 hu hw hww hs9 _ _ _ none none _ _ _ none _ _ _ _ _ _ _ _ fun e14 => ?_
    refine part6 cs _ _ _ _ _ _ _ _ _ _ _ _ _ _ _ _ fun e2 e3 e4 e5 e6 e7 e8 e9 e10 e11 e12 e13 e14 e15 e16 => ?_
    nofun
    exact ⟨_, _, _, _, _, _, _, _, _, _, _, _, _, _, _, rfl⟩
  · rintro env ⟨e2, e3, e4, e5, e6, e7, e8, e9, e10, e11, e12, e13, e14, e15, e16, rfl⟩
    nofun⟩
end T

set_option Elab.async false
set_option linter.all false
set_option autoImplicit false
set_option maxRecDepth 100000
open PySem PySem.W PyProof.Rows
set_option maxHeartbeats 0 in
theorem PySem.Challenge.cw_swapladders_k76_whole_greatest_products_holds : PySem.Challenge.rw_swapladders_k76_whole_greatest_products.Holds := by
  w_on; o_law; k_head; (case hw => w_witness2)
  k_fill
  refine PV.walk_true (l := PySem.Challenge.rw_swapladders_k76_whole_greatest_products) (n := 63) (k := 5) rfl (by decide) rfl ⟨rfl, by decide, by decide⟩ rfl (fun w h Y => PySem.W.kIn_of Y) ?F
  case F =>
    intro w mg fa h KX G hmg
    refine' T.all_mk T.law_ok KX G hmg ?a0 ?l0 ?c0 ?k0 ?a1 ?l1 ?c1 ?k1 ?a2 ?l2 ?c2 ?k2 ?a3 ?l3 ?c3 ?k3 ?a4 ?l4 ?c4 ?k4 ?a5 ?l5 ?c5 ?k5 ?a6 ?l6 ?c6 ?k6 ?a7 ?l7 ?c7 ?k7 ?a8 ?l8 ?c8 ?k8 ?a9 ?l9 ?c9 ?k9 ?a10 ?l10 ?c10 ?k10 ?a11 ?l11 ?c11 ?k11 ?a12 ?l12 ?c12 ?k12 ?a13 ?l13 ?c13 ?k13 ?a14 ?l14 ?c14 ?k14 ?a15 ?l15 ?c15 ?k15 ?a16 ?l16 ?c16 ?k16 ?a17 ?l17 ?c17 ?k17 ?a18 ?l18 ?c18 ?k18 ?a19 ?l19 ?c19 ?k19 ?a20 ?l20 ?c20 ?k20 ?a21 ?l21 ?c21 ?k21 ?z_len ?z_range ?z_tuple ?z_list ?z_int ?z_abs ?z_max ?z_min ?z_sorted ?z_repr ?z_zip ?z_enumerate ?z_sum ?z_dict ?z_isinstance ?z_all
    (case a0 => k_is); (case l0 => k_is); (case c0 => k_is); (case k0 => k_is); (case a1 => k_is); (case l1 => k_is); (case c1 => k_is); (case k1 => k_is); (case a2 => k_is); (case l2 => k_is); (case c2 => k_is); (case k2 => k_is); (case a3 => k_is); (case l3 => k_is); (case c3 => k_is); (case k3 => k_is); (case a4 => k_is); (case l4 => k_is); (case c4 => k_is); (case k4 => k_is); (case a5 => k_is); (case l5 => k_is); (case c5 => k_is); (case k5 => k_is); (case a6 => k_is); (case l6 => k_is); (case c6 => k_is); (case k6 => k_is); (case a7 => k_is); (case l7 => k_is); (case c7 => k_is); (case k7 => k_is); (case a8 => k_is); (case l8 => k_is); (case c8 => k_is); (case k8 => k_is); (case a9 => k_is); (case l9 => k_is); (case c9 => k_is); (case k9 => k_is); (case a10 => k_is); (case l10 => k_is); (case c10 => k_is); (case k10 => k_is); (case a11 => k_is); (case l11 => k_is); (case c11 => k_is); (case k11 => k_is); (case a12 => k_is); (case l12 => k_is); (case c12 => k_is); (case k12 => k_is); (case a13 => k_is); (case l13 => k_is); (case c13 => k_is); (case k13 => k_is); (case a14 => k_is); (case l14 => k_is); (case c14 => k_is); (case k14 => k_is); (case a15 => k_is); (case l15 => k_is); (case c15 => k_is); (case k15 => k_is); (case a16 => k_is); (case l16 => k_is); (case c16 => k_is); (case k16 => k_is); (case a17 => k_is); (case l17 => k_is); (case c17 => k_is); (case k17 => k_is); (case a18 => k_is); (case l18 => k_is); (case c18 => k_is); (case k18 => k_is); (case a19 => k_is); (case l19 => k_is); (case c19 => k_is); (case k19 => k_is); (case a20 => k_is); (case l20 => k_is); (case c20 => k_is); (case k20 => k_is); (case a21 => k_is); (case l21 => k_is); (case c21 => k_is); (case k21 => k_is); (case z_len => k_is); (case z_range => k_is); (case z_tuple => k_is); (case z_list => k_is); (case z_int => k_is); (case z_abs => k_is); (case z_max => k_is); (case z_min => k_is); (case z_sorted => k_is); (case z_repr => k_is); (case z_zip => k_is); (case z_enumerate => k_is); (case z_sum => k_is); (case z_dict => k_is); (case z_isinstance => k_is); (case z_all => k_is)

